import Derived.Test.YtapfhcnigmighaaGreatNum
import Derived.Test.YtapfhcnigmighaaGreatOrdP
set_option linter.unusedVariables false
set_option linter.unusedSimpArgs false
namespace Go.Proofs.YtapfhcnigmighaaGreat.Own
open Go Go.Proofs.YtapfhcnigmighaaGreat.GD
theorem cmp_int (a b : Int) : Cl ty tab 94 [.int .i64 a, .int .i64 b] = some [.int .i64 (sgn a b)] := by
 have hn : ∀ x, Cl ty tab 138 [.int .i64 x] = some [.bool false] := fun x => s_cmp_isNaN_138 0 _ (by unfold cmp_isNaN_138; simp)
 refine s_cmp_Compare_94 0 _ _ ?_
 unfold cmp_Compare_94 sgn
 by_cases h1 : a < b
 · simp (disch := omega) only [gds, hn, h1]
 · by_cases h2 : b < a
   · simp (disch := omega) only [gds, hn, h1, h2]
   · simp (disch := omega) only [gds, hn, h1, h2]
theorem cmp_u8 (a b : Int) : Cl ty tab 133 [.int .u8 a, .int .u8 b] = some [.int .i64 (sgn a b)] := by
 have hn : ∀ x, Cl ty tab 151 [.int .u8 x] = some [.bool false] := fun x => s_cmp_isNaN_151 0 _ (by unfold cmp_isNaN_151; simp)
 refine s_cmp_Compare_133 0 _ _ ?_
 unfold cmp_Compare_133 sgn
 by_cases h1 : a < b
 · simp (disch := omega) only [gds, hn, h1]
 · by_cases h2 : b < a
   · simp (disch := omega) only [gds, hn, h1, h2]
   · simp (disch := omega) only [gds, hn, h1, h2]
theorem cmp_u32 (a b : Int) : Cl ty tab 90 [.int .u32 a, .int .u32 b] = some [.int .i64 (sgn a b)] := by
 have hn : ∀ x, Cl ty tab 136 [.int .u32 x] = some [.bool false] := fun x => s_cmp_isNaN_136 0 _ (by unfold cmp_isNaN_136; simp)
 refine s_cmp_Compare_90 0 _ _ ?_
 unfold cmp_Compare_90 sgn
 by_cases h1 : a < b
 · simp (disch := omega) only [gds, hn, h1]
 · by_cases h2 : b < a
   · simp (disch := omega) only [gds, hn, h1, h2]
   · simp (disch := omega) only [gds, hn, h1, h2]
theorem cmp_u64 (a b : Int) : Cl ty tab 152 [.int .u64 a, .int .u64 b] = some [.int .i64 (sgn a b)] := by
 have hn : ∀ x, Cl ty tab 159 [.int .u64 x] = some [.bool false] := fun x => s_cmp_isNaN_159 0 _ (by unfold cmp_isNaN_159; simp)
 refine s_cmp_Compare_152 0 _ _ ?_
 unfold cmp_Compare_152 sgn
 by_cases h1 : a < b
 · simp (disch := omega) only [gds, hn, h1]
 · by_cases h2 : b < a
   · simp (disch := omega) only [gds, hn, h1, h2]
   · simp (disch := omega) only [gds, hn, h1, h2]
theorem addrC_ok (a b c d : Int) : Cl ty tab 134 [.agg [.int .u64 a, .int .u64 b], .agg [.int .u64 c, .int .u64 d]] = some [.int .i64 (firstN [sgn a c, sgn b d])] := by
 refine s_number_Compare 0 _ _ _ _ ?_
 unfold number_Compare
 rw [firstN_cons, firstN_one]
 by_cases h : sgn a c = 0
 · simp (disch := omega) only [gds, cmp_u64, h, ne_eq, not_true_eq_false]
 · simp (disch := omega) only [gds, cmp_u64, h, ne_eq, not_false_eq_true]
theorem or_ok (n : Bool) (L : List Int) (hL : L.length ≤ 1000) : Cl ty tab 87 [.sl 3 n (L.map (D.int .i64))] = some [.int .i64 (firstN L)] := by
 obtain ⟨k, hk⟩ := rounds
 refine s_cmp_Or_87 k _ _ ?_
 unfold cmp_Or_87
 have := iter_ix (F := cmp_Or_87.b0 (Cl ty tab) k (L.map (D.int .i64))) L.length (fun i => [.int .i64 i]) (fun i => some [.int .i64 (firstN (L.drop i))]) (fun i hi again ha => ?_) (fun again => ?_) k (by omega) 0 (by omega)
 · exact this
 · unfold cmp_Or_87.b0
   rw [List.drop_eq_getElem_cons hi]
   by_cases h : L[i] = 0
   · simp (disch := omega) only [gds, firstN, h, ne_eq, not_true_eq_false, Int.natCast_add, Int.natCast_one] at ha ⊢
     exact ha
   · simp (disch := omega) only [gds, firstN, h, ne_eq, not_false_eq_true]
 · unfold cmp_Or_87.b0
   rw [List.drop_length]
   simp (disch := omega) only [gds, firstN]
abbrev oKs : List Sk := [.int .u32, .int .u8, .int .u64, .int .u64, .int .i64, .int .i64]
structure Og (d : D) : Prop where
 fit : Vk.fits ⟨true, oKs⟩ d = true
 hi : 0 ≤ (d.cell 2).i ∧ (d.cell 2).i < 18446744073709551616
 lo : 0 ≤ (d.cell 3).i ∧ (d.cell 3).i < 18446744073709551616
theorem Og.eta {d : D} (h : Og d) : D.agg (etaCells ks1 d 0) = d := eta_fit h.fit
def prefI (f h l len : Int) : Int := checkP f h.toNat l.toNat len
theorem check_i (f h l len : Int) (hh : 0 ≤ h ∧ h < 18446744073709551616) (hl : 0 ≤ l ∧ l < 18446744073709551616) : Cl ty tab 69 [.agg [.int .u8 f, .int .u64 h, .int .u64 l, .int .i64 len]] = some [.int .i64 (prefI f h l len)] := by
 have := check_prefix_ok f h.toNat l.toNat len ⟨by omega, by omega⟩
 simp only [P4, Int.toNat_of_nonneg hh.1, Int.toNat_of_nonneg hl.1] at this
 exact this
theorem prefI_ok {f h l len : Int} (hp : prefI f h l len = 0) : (f = 4 ∨ f = 6) ∧ 0 ≤ len ∧ len ≤ (widthF f : Nat) := by
 unfold prefI checkP at hp
 rcases widthF_cases f with h0 | h0
 · rw [if_pos h0] at hp; cases hp
 · have hw : ¬ widthF f = 0 := by rcases h0 with ⟨_, h⟩ | ⟨_, h⟩ <;> omega
   rw [if_neg hw] at hp
   split at hp
   · rename_i hc
     exact ⟨by rcases h0 with ⟨h, _⟩ | ⟨h, _⟩; exact .inl h; exact .inr h, hc.2.1, hc.2.2.1⟩
   · cases hp
def oNums (d : D) : List Int := [(d.cell 0).i, (d.cell 1).i, (d.cell 2).i, (d.cell 3).i, (d.cell 4).i, (d.cell 5).i]
def ordO (a b : D) : Int := cmpL (oNums a) (oNums b)
def ltO (a b : D) : Bool := decide (ordO a b < 0)
def goodO (d : D) : Bool := decide (prefI (d.cell 1).i (d.cell 2).i (d.cell 3).i (d.cell 4).i = 0 ∧ (d.cell 4).i ≤ (d.cell 5).i ∧ (d.cell 5).i ≤ (widthF (d.cell 1).i : Nat))
theorem ordO_first (a b : D) : ordO a b = firstN [sgn (a.cell 0).i (b.cell 0).i, sgn (a.cell 1).i (b.cell 1).i, sgn (a.cell 2).i (b.cell 2).i, sgn (a.cell 3).i (b.cell 3).i, sgn (a.cell 4).i (b.cell 4).i, sgn (a.cell 5).i (b.cell 5).i] := cmpL_first _ _
theorem firstN_mid (a b c d e f : Int) : firstN [a, b, firstN [c, d], e, f] = firstN [a, b, c, d, e, f] := by
 simp only [firstN]
 by_cases h1 : a = 0 <;> by_cases h2 : b = 0 <;> by_cases h3 : c = 0 <;> by_cases h4 : d = 0 <;> simp [h1, h2, h3, h4]
theorem byOrigin_ok (a b : D) (ha : Og a) (hb : Og b) : Cl ty tab 75 [a, b] = some [.int .i64 (ordO a b)] := by
 have := s_diff_byOrigin 0 a b (r := [.int .i64 (ordO a b)]) ?_
 · rwa [ha.eta, hb.eta] at this
 unfold diff_byOrigin
 have hor := fun n => or_ok n [sgn (a.cell 0).i (b.cell 0).i, sgn (a.cell 1).i (b.cell 1).i, firstN [sgn (a.cell 2).i (b.cell 2).i, sgn (a.cell 3).i (b.cell 3).i], sgn (a.cell 4).i (b.cell 4).i, sgn (a.cell 5).i (b.cell 5).i] (by simp)
 simp only [List.map_cons, List.map_nil] at hor
 simp (disch := omega) only [gds, cmp_u32, cmp_u8, addrC_ok, cmp_int, hor]
 rw [firstN_mid, ← ordO_first]
theorem goodOrigin_ok (d : D) (h : Og d) : Cl ty tab 76 [d] = some [.bool (goodO d)] := by
 have := s_diff_goodOrigin 0 d (r := [.bool (goodO d)]) ?_
 · rwa [h.eta] at this
 unfold diff_goodOrigin goodO
 have hc := check_i (d.cell 1).i (d.cell 2).i (d.cell 3).i (d.cell 4).i h.hi h.lo
 by_cases h6 : (d.cell 1).i = 6
 · have hw : ((widthF (d.cell 1).i : Nat) : Int) = 128 := by rw [h6]; rfl
   rw [hw]
   rw [h6] at hc ⊢
   by_cases h0 : prefI 6 (d.cell 2).i (d.cell 3).i (d.cell 4).i = 0
   · by_cases h1 : (d.cell 4).i ≤ (d.cell 5).i
     · simp (disch := omega) only [gds, hc, h0, h1, true_and]
     · simp (disch := omega) only [gds, hc, h0, h1, true_and, false_and]
   · simp (disch := omega) only [gds, hc, h0, false_and]
 · by_cases h0 : prefI (d.cell 1).i (d.cell 2).i (d.cell 3).i (d.cell 4).i = 0
   · have hw : ((widthF (d.cell 1).i : Nat) : Int) = 32 := by
      rcases (prefI_ok h0).1 with h | h
      · rw [h]; rfl
      · exact absurd h h6
     rw [hw]
     by_cases h1 : (d.cell 4).i ≤ (d.cell 5).i
     · simp (disch := omega) only [gds, hc, h6, h0, h1, true_and]
     · simp (disch := omega) only [gds, hc, h6, h0, h1, true_and, false_and]
   · simp (disch := omega) only [gds, hc, h6, h0, false_and]
end Go.Proofs.YtapfhcnigmighaaGreat.Own
