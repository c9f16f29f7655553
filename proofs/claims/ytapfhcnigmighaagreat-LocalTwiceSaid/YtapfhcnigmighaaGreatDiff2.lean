import Derived.Test.YtapfhcnigmighaaGreatDiff
set_option linter.unusedVariables false
set_option linter.unusedSimpArgs false
namespace Go.Proofs.YtapfhcnigmighaaGreat.Own
open Go Go.Proofs.YtapfhcnigmighaaGreat.GD
abbrev kKs : List Sk := [.int .u32, .int .u8, .int .u8, .int .u8, .int .u8, .int .u8, .int .u8, .int .u8, .int .u8, .int .u8, .int .u8, .int .u8, .int .u8, .int .u8, .int .u8, .int .u8, .int .u8, .int .i64]
abbrev kKsE (d : D) (n : Nat) : List D := etaCells ks2 d n
abbrev rKsE (d : D) (n : Nat) : List D := etaCells ks5 d n
def rootN (d : D) (n : Nat) : List Int := (List.range 16).map fun j => (d.cell (n + j)).i
theorem rootN_len (d : D) (n : Nat) : (rootN d n).length = 16 := by simp [rootN]
theorem rootN_eta (d : D) (n : Nat) : rKsE d n = (rootN d n).map (D.int .u8) := rfl
structure Kg (d : D) : Prop where
 fit : Vk.fits ⟨true, kKs⟩ d = true
 rt : ∀ x, x ∈ rootN d 1 → 0 ≤ x ∧ x < 256
theorem Kg.eta {d : D} (h : Kg d) : D.agg (kKsE d 0) = d := eta_fit h.fit
def ordK (a b : D) : Int := cmpL ((a.cell 0).i :: (rootN a 1 ++ [(a.cell 17).i])) ((b.cell 0).i :: (rootN b 1 ++ [(b.cell 17).i]))
def ltK (a b : D) : Bool := decide (ordK a b < 0)
def goodK (d : D) : Bool := decide (0 ≤ (d.cell 17).i ∧ (d.cell 17).i ≤ 4)
theorem cmpL_app : ∀ (a b : List Int) (s t : List Int), a.length = b.length → cmpL (a ++ s) (b ++ t) = firstN [cmpL a b, cmpL s t]
 | [], [], s, t, _ => by
  show cmpL s t = firstN [0, cmpL s t]
  rw [firstN_cons, if_pos rfl, firstN_one]
 | x :: a, y :: b, s, t, h => by
  simp only [List.cons_append, cmpL_cons]
  rw [cmpL_app a b s t (by simpa using h)]
  by_cases e : sgn x y = 0
  · simp [e]
  · simp [e, firstN]
 | [], _ :: _, _, _, h => by simp at h
 | _ :: _, [], _, _, h => by simp at h
theorem cmpL_single (a b : Int) : cmpL [a] [b] = sgn a b := by
 rw [cmpL_cons]
 by_cases e : sgn a b = 0 <;> simp [e, cmpL]
theorem ordK_first (a b : D) : ordK a b = firstN [sgn (a.cell 0).i (b.cell 0).i, cmpL (rootN a 1) (rootN b 1), sgn (a.cell 17).i (b.cell 17).i] := by
 unfold ordK
 rw [cmpL_cons, cmpL_app _ _ _ _ (by rw [rootN_len, rootN_len]), cmpL_single]
 conv => rhs; rw [firstN_cons]
theorem goodKey_ok (d : D) (h : Kg d) : Cl ty tab 82 [d] = some [.bool (goodK d)] := by
 have := s_diff_goodKey 0 d (r := [.bool (goodK d)]) ?_
 · rwa [h.eta] at this
 unfold diff_goodKey goodK
 by_cases h0 : 0 ≤ (d.cell 17).i
 · simp (disch := omega) only [gds, h0, true_and]
 · simp (disch := omega) only [gds, h0, false_and]
theorem byKey_ok (a b : D) (ha : Kg a) (hb : Kg b) : Cl ty tab 81 [a, b] = some [.int .i64 (ordK a b)] := by
 have := s_diff_byKey 0 a b (r := [.int .i64 (ordK a b)]) ?_
 · rwa [ha.eta, hb.eta] at this
 unfold diff_byKey
 have hc := cmpB_cmpL (rootN a 1) (rootN b 1) (by rw [rootN_len, rootN_len]) ha.rt hb.rt
 have hb1 : Cl ty tab 93 [.sl 5 false (rKsE a 1), .sl 5 false (rKsE b 1)] = some [.int .i64 (cmpL (rootN a 1) (rootN b 1))] := by
  rw [s_bytes_Compare, rootN_eta, rootN_eta, ← hc]; rfl
 have hor := fun n => or_ok n [sgn (a.cell 0).i (b.cell 0).i, cmpL (rootN a 1) (rootN b 1), sgn (a.cell 17).i (b.cell 17).i] (by simp)
 simp only [List.map_cons, List.map_nil] at hor
 simp (disch := omega) only [gds, cmp_u32, cmp_int, hor, hb1]
 rw [← ordK_first]
structure Pg (d : D) : Prop where
 fit : Vk.fits ⟨true, [.int .u32, .sl 51]⟩ d = true
 els : ∃ L : List Int, (d.cell 1).els = L.map (D.int .u32) ∧ ∀ x, x ∈ L → 0 ≤ x ∧ x < 4294967296
 len : (d.cell 1).els.length ≤ 9223372036854775807
theorem Pg.eta {d : D} (h : Pg d) : D.agg [.int .u32 (d.cell 0).i, .sl 51 (d.cell 1).nb (d.cell 1).els] = d := eta_fit h.fit
def custP (d : D) : Int := (d.cell 0).i
def ltP (a b : D) : Bool := decide (custP a < custP b)
end Go.Proofs.YtapfhcnigmighaaGreat.Own
