import Derived.Test.YtapfhcnigmighaaGreatDiff2
set_option linter.unusedVariables false
set_option linter.unusedSimpArgs false
namespace Go.Proofs.YtapfhcnigmighaaGreat.Own
open Go Go.Proofs.YtapfhcnigmighaaGreat.GD
def at' (l : List D) (i : Nat) : Int := ((l.getD i .undef).cell 0).i
def idx (x : Int) : List D → Nat → Int
 | [], _ => -1
 | d :: t, i => if x = (d.cell 0).i then i else idx x t (i + 1)
theorem idx_pos (x : Int) : ∀ (l : List D) (i : Nat), (0 ≤ idx x l i ↔ ∃ d, d ∈ l ∧ (d.cell 0).i = x)
 | [], i => by simp [idx]
 | d :: t, i => by
  unfold idx
  by_cases h : x = (d.cell 0).i
  · rw [if_pos h]
    exact ⟨fun _ => ⟨d, List.mem_cons_self .., h.symm⟩, fun _ => by omega⟩
  · rw [if_neg h, idx_pos x t (i + 1)]
    constructor
    · rintro ⟨e, h1, h2⟩; exact ⟨e, List.mem_cons_of_mem _ h1, h2⟩
    · rintro ⟨e, h1, h2⟩
      rcases List.mem_cons.1 h1 with rfl | h1
      · exact absurd h2.symm h
      · exact ⟨e, h1, h2⟩
theorem indexN_ok (n : Bool) (l : List D) (x : Int) (hl : l.length ≤ 60000) : Cl ty tab 123 [.sl 51 n l, .int .u32 x] = some [.int .i64 (idx x l 0)] := by
 obtain ⟨k, hk⟩ := rounds
 refine s_slices_Index k _ _ _ ?_
 unfold slices_Index
 have := iter_ix (F := slices_Index.b0 (Cl ty tab) k l x) l.length (fun i => [.int .i64 i]) (fun i => some [.int .i64 (idx x (l.drop i) i)]) (fun i hi again ha => ?_) (fun again => ?_) k (by omega) 0 (by omega)
 · exact this
 · unfold slices_Index.b0
   rw [List.drop_eq_getElem_cons hi]
   unfold idx
   by_cases h : x = (l[i].cell 0).i
   · simp (disch := omega) only [gds, getD_get]
   · simp (disch := omega) only [gds, getD_get]
     exact ha
 · unfold slices_Index.b0
   rw [List.drop_length]
   simp (disch := omega) only [gds]
   rfl
theorem containsN_ok (n : Bool) (l : List D) (x : Int) (hl : l.length ≤ 60000) : Cl ty tab 64 [.sl 51 n l, .int .u32 x] = some [.bool (decide (0 ≤ idx x l 0))] := by
 refine s_slices_Contains 0 _ _ _ ?_
 unfold slices_Contains
 simp (disch := omega) only [gds, indexN_ok n l x hl]
def up (l : List D) (i : Nat) : Prop := ∀ j, i ≤ j → j < l.length → at' l (j - 1) < at' l j
theorem up_step {l : List D} {i : Nat} (hi : i < l.length) : up l i ↔ at' l (i - 1) < at' l i ∧ up l (i + 1) := by
 constructor
 · intro h
   exact ⟨h i (Nat.le_refl _) hi, fun j h1 h2 => h j (by omega) h2⟩
 · rintro ⟨h1, h2⟩ j h3 h4
   rcases Nat.lt_or_ge i j with h | h
   · exact h2 j h h4
   · have : j = i := by omega
     subst this; exact h1
open Classical in
noncomputable def okR (b : Bool) (p : Prop) : List D := if b = true ∧ p then [.int .i64 0] else [.int .i64 8]
theorem aspaLoop_ok (k : Nat) (hk : 9223372036854775808 < k) (x : Int) (n : Bool) (l : List D) (hl : l.length ≤ 50) (b : Bool) : iter k (aspa_Check.b0 (Cl ty tab) k) [.bool b, .int .i64 1, .pv [.int .u32 x, .sl 51 n l]] = some (okR b (up l 1)) := by
 have := iter_wf (F := aspa_Check.b0 (Cl ty tab) k) (σ := Bool × Nat) (fun q => [.bool q.1, .int .i64 q.2, .pv [.int .u32 x, .sl 51 n l]]) (fun q => some (okR q.1 (up l q.2))) (fun q => l.length - q.2) (fun q => 1 ≤ q.2 ∧ q.2 ≤ 60)
  (fun q hq again hag => ?_) k (b, 1) ⟨by simp only; omega, by simp only; omega⟩ (by simp only; omega)
 · exact this
 · obtain ⟨b, i⟩ := q
   obtain ⟨h1, h2⟩ := hq
   simp only at h1 h2 hag ⊢
   unfold aspa_Check.b0
   by_cases hi : i < l.length
   · cases b with
     | false =>
      have := hag (false, i + 1) ⟨by simp only; omega, by simp only; omega⟩ (by simp only; omega)
      have e : okR false (up l i) = okR false (up l (i + 1)) := by unfold okR; rw [if_neg (by simp), if_neg (by simp)]
      rw [e]
      clear e hag
      simp (disch := omega) only [gds, Int.natCast_add, Int.natCast_one] at this ⊢
      exact this
     | true =>
      have := hag (decide (at' l (i - 1) < at' l i), i + 1) ⟨by simp only; omega, by simp only; omega⟩ (by simp only; omega)
      have e : okR true (up l i) = okR (decide (at' l (i - 1) < at' l i)) (up l (i + 1)) := by
       unfold okR
       rw [up_step hi]
       congr 1
       simp
      have e1 : ∀ j, ((l.getD j .undef).cell 0).i = at' l j := fun j => rfl
      rw [e]
      clear e hag
      simp (disch := omega) only [gds, Int.natCast_add, Int.natCast_one, e1] at this ⊢
      exact this
   · have e : okR b (up l i) = if b = true then [.int .i64 0] else [.int .i64 8] := by
      unfold okR
      have : up l i := fun j h3 h4 => by omega
      cases b <;> simp [this]
     rw [e]
     clear e hag
     cases b <;> simp (disch := omega) only [gds]
def Good (x : Int) (l : List D) : Prop := x ≠ 0 ∧ l ≠ [] ∧ (∀ i, i < l.length → at' l i ≠ x) ∧ (l.length = 1 ∨ at' l 0 ≠ 0) ∧ up l 1
open Classical in
noncomputable def chkA (x : Int) (l : List D) : Int := if 50 < l.length then 4 else if Good x l then 0 else 8
theorem chk4 {x : Int} {l : List D} (h : 50 < l.length) : chkA x l = 4 := by unfold chkA; rw [if_pos h]
theorem chk0 {x : Int} {l : List D} (h : ¬ 50 < l.length) (h2 : Good x l) : chkA x l = 0 := by unfold chkA; rw [if_neg h, if_pos h2]
theorem chk8 {x : Int} {l : List D} (h : ¬ 50 < l.length) (h2 : ¬ Good x l) : chkA x l = 8 := by unfold chkA; rw [if_neg h, if_neg h2]
theorem mem_at {l : List D} {x : Int} : (∃ d, d ∈ l ∧ (d.cell 0).i = x) ↔ ∃ i, i < l.length ∧ at' l i = x := by
 constructor
 · rintro ⟨d, h1, h2⟩
   obtain ⟨i, hi, rfl⟩ := List.mem_iff_getElem.1 h1
   exact ⟨i, hi, by unfold at'; rw [getD_get hi]; exact h2⟩
 · rintro ⟨i, hi, h⟩
   exact ⟨l[i], List.getElem_mem hi, by unfold at' at h; rwa [getD_get hi] at h⟩
theorem aspaCheck_ok (x : Int) (n : Bool) (l : List D) (hx : 0 ≤ x) (h0 : l.length ≤ 80) (hl : 0 ≤ at' l 0) : Cl ty tab 135 [.agg [.int .u32 x, .sl 51 n l]] = some [.int .i64 (chkA x l)] := by
 obtain ⟨k, hk⟩ := rounds
 refine s_aspa_Check k _ _ _ ?_
 unfold aspa_Check
 by_cases h1 : 50 < l.length
 · rw [chk4 h1]; simp (disch := omega) only [gds]
 have lp := aspaLoop_ok k hk x n l (by omega)
 have lp1 : ∀ b, iter k (aspa_Check.b0_1 (Cl ty tab) k) [.bool b, .int .i64 1, .pv [.int .u32 x, .sl 51 n l]] = some (okR b (up l 1)) := lp
 have lp2 : ∀ b, iter k (aspa_Check.b0_2 (Cl ty tab) k) [.bool b, .int .i64 1, .pv [.int .u32 x, .sl 51 n l]] = some (okR b (up l 1)) := lp
 have lp3 : ∀ b, iter k (aspa_Check.b0_3 (Cl ty tab) k) [.bool b, .int .i64 1, .pv [.int .u32 x, .sl 51 n l]] = some (okR b (up l 1)) := lp
 have lp4 : ∀ b, iter k (aspa_Check.b0_4 (Cl ty tab) k) [.bool b, .int .i64 1, .pv [.int .u32 x, .sl 51 n l]] = some (okR b (up l 1)) := lp
 have off : okR false (up l 1) = [.int .i64 8] := by unfold okR; rw [if_neg (by simp)]
 by_cases h2 : 0 < x
 case neg =>
  rw [chk8 h1 (fun h => h.1 (by omega))]
  simp (disch := omega) only [gds, lp4, off]
 by_cases h3 : 0 < l.length
 case neg =>
  have h3' : l = [] := List.length_eq_zero_iff.1 (by omega)
  rw [chk8 h1 (fun h => h.2.1 h3')]
  simp (disch := omega) only [gds, lp3, off]
 have h3' : l ≠ [] := fun e => by rw [e] at h3; simp at h3
 have hc := containsN_ok n l x (by omega)
 by_cases h4 : 0 ≤ idx x l 0
 · obtain ⟨i, hi, e⟩ := mem_at.1 ((idx_pos x l 0).1 h4)
   rw [chk8 h1 (fun h => h.2.2.1 i hi e)]
   simp (disch := omega) only [gds, hc, lp2, off]
 have h4' : ∀ i, i < l.length → at' l i ≠ x := fun i hi e => h4 ((idx_pos x l 0).2 (mem_at.2 ⟨i, hi, e⟩))
 by_cases h5 : l.length = 1
 · have e : okR true (up l 1) = [.int .i64 0] := by unfold okR; rw [if_pos ⟨rfl, fun j a b => by omega⟩]
   rw [chk0 h1 ⟨by omega, h3', h4', .inl h5, fun j a b => by omega⟩]
   simp (disch := omega) only [gds, hc, lp, e]
 · have e1 : ((l.getD 0 .undef).cell 0).i = at' l 0 := rfl
   by_cases h6 : at' l 0 = 0
   · rw [chk8 h1 (fun h => h.2.2.2.1.elim h5 (fun h => h h6))]
     have e2 : decide (0 < at' l 0) = false := by rw [h6]; rfl
     simp (disch := omega) only [gds, hc, lp1, e1, e2, off]
   · have e2 : decide (0 < at' l 0) = true := by rw [decide_eq_true_eq]; omega
     by_cases h7 : up l 1
     · rw [chk0 h1 ⟨by omega, h3', h4', .inr h6, h7⟩]
       have e : okR true (up l 1) = [.int .i64 0] := by unfold okR; rw [if_pos ⟨rfl, h7⟩]
       simp (disch := omega) only [gds, hc, lp1, e1, e2, e]
     · rw [chk8 h1 (fun h => h7 h.2.2.2.2)]
       have e : okR true (up l 1) = [.int .i64 8] := by unfold okR; rw [if_neg (fun h => h7 h.2)]
       simp (disch := omega) only [gds, hc, lp1, e1, e2, e]
def fit (x : Int) (l : List D) (i : Nat) : Prop := ∀ j, i ≤ j → j < l.length → at' l j ≠ x ∧ (0 < j → at' l (j - 1) < at' l j)
end Go.Proofs.YtapfhcnigmighaaGreat.Own
