import Derived.Test.YtekkbhmlocageaaF
namespace Go.Proofs.Ytekkbhmlocageaa.Own
open Go Go.Proofs.Ytekkbhmlocageaa.GD
set_option linter.unusedVariables false
set_option linter.unusedSimpArgs false

/-- a comparison that orders -/
structure TC {α : Type} (f : α → α → Int) : Prop where
  rng : ∀ a b, f a b = -1 ∨ f a b = 0 ∨ f a b = 1
  anti : ∀ a b, f b a = 0 - f a b
  tr : ∀ a b c, f a b ≤ 0 → f b c ≤ 0 → f a c = min (f a b) (f b c)

theorem sgn_lt {a b : Int} (h : a < b) : sgn a b = -1 := by unfold sgn; rw [if_pos h]
theorem sgn_eq (a : Int) : sgn a a = 0 := by unfold sgn; rw [if_neg (by omega), if_neg (by omega)]
theorem sgn_gt {a b : Int} (h : b < a) : sgn a b = 1 := by unfold sgn; rw [if_neg (by omega), if_pos h]
theorem sgn_zero {a b : Int} (h : sgn a b = 0) : a = b := by
  unfold sgn at h
  split at h
  · cases h
  · split at h
    · cases h
    · omega
theorem sgn_le {a b : Int} (h : sgn a b ≤ 0) : a ≤ b := by
  rcases Int.lt_or_le b a with h1 | h1
  · rw [sgn_gt h1] at h; omega
  · exact h1

theorem TC.sgn : TC Own.sgn where
  rng a b := by unfold Own.sgn; split; simp; split <;> simp
  anti a b := by
    rcases Int.lt_trichotomy a b with h | h | h
    · rw [sgn_lt h, sgn_gt h]; rfl
    · subst h; rw [sgn_eq]; rfl
    · rw [sgn_lt h, sgn_gt h]; rfl
  tr a b c h1 h2 := by
    have g1 := sgn_le h1
    have g2 := sgn_le h2
    rcases Int.lt_or_eq_of_le g1 with h | h
    · rw [sgn_lt h, sgn_lt (show a < c by omega)]
      rcases Int.lt_or_eq_of_le g2 with h' | h'
      · rw [sgn_lt h']; rfl
      · subst h'; rw [sgn_eq]; rfl
    · subst h
      rw [sgn_eq]
      rcases Int.lt_or_eq_of_le g2 with h' | h'
      · rw [sgn_lt h']; rfl
      · subst h'; rw [sgn_eq]; rfl

theorem TC.pull {α β : Type} {f : β → β → Int} (h : TC f) (k : α → β) : TC fun a b => f (k a) (k b) :=
  ⟨fun a b => h.rng _ _, fun a b => h.anti _ _, fun a b c => h.tr _ _ _⟩

theorem TC.rev {α : Type} {f : α → α → Int} (h : TC f) : TC fun a b => f b a where
  rng a b := h.rng b a
  anti a b := h.anti b a
  tr a b c h1 h2 := by
    have := h.tr c b a h2 h1
    omega

theorem TC.orE {α : Type} {f g : α → α → Int} (hf : TC f) (hg : TC g) : TC fun a b => Own.orE (f a b) (g a b) where
  rng a b := by unfold Own.orE; split; exact hf.rng a b; exact hg.rng a b
  anti a b := by
    have h1 := hf.anti a b; have h2 := hg.anti a b
    unfold Own.orE
    by_cases h : f a b = 0
    · have : f b a = 0 := by omega
      simp only [h, this, ne_eq, not_true_eq_false, if_false]; exact h2
    · have : f b a ≠ 0 := by omega
      simp only [h, this, ne_eq, not_false_eq_true, if_true]; exact h1
  tr a b c h1 h2 := by
    have r1 := hf.rng a b; have r2 := hf.rng b c
    unfold Own.orE at h1 h2 ⊢
    by_cases e1 : f a b = 0
    · by_cases e2 : f b c = 0
      · have := hf.tr a b c (by omega) (by omega)
        have e3 : f a c = 0 := by rw [this, e1, e2]; rfl
        simp only [e1, e2, e3, ne_eq, not_true_eq_false, if_false] at h1 h2 ⊢
        exact hg.tr a b c h1 h2
      · simp only [e1, e2, ne_eq, not_true_eq_false, not_false_eq_true, if_false, if_true] at h1 h2 ⊢
        have := hf.tr a b c (by omega) h2
        have e3 : f a c = f b c := by omega
        have rg := hg.rng a b
        simp only [e3, e2, not_false_eq_true, if_true]
        omega
    · simp only [e1, ne_eq, not_false_eq_true, if_true] at h1
      by_cases e2 : f b c = 0
      · simp only [e2, ne_eq, not_true_eq_false, if_false] at h2
        have := hf.tr a b c h1 (by omega)
        have e3 : f a c = f a b := by omega
        have rg := hg.rng b c
        simp only [e1, e2, e3, ne_eq, not_false_eq_true, not_true_eq_false, if_true, if_false]
        omega
      · simp only [e2, ne_eq, not_false_eq_true, if_true] at h2
        have := hf.tr a b c h1 h2
        have e3 : f a c ≠ 0 := by omega
        simp only [e1, e2, e3, ne_eq, not_false_eq_true, if_true]
        exact this

theorem pathC_rng : ∀ A B, pathC A B = -1 ∨ pathC A B = 0 ∨ pathC A B = 1
  | [], [] => .inr (.inl rfl)
  | [], _ :: _ => .inl rfl
  | _ :: _, [] => .inr (.inr rfl)
  | a :: s, b :: t => by
    unfold pathC Own.orE
    split
    · exact TC.sgn.rng a b
    · exact pathC_rng s t

theorem pathC_anti : ∀ A B, pathC B A = 0 - pathC A B
  | [], [] => rfl
  | [], _ :: _ => rfl
  | _ :: _, [] => rfl
  | a :: s, b :: t => by
    have h1 := TC.sgn.anti a b
    have h2 := pathC_anti s t
    unfold pathC Own.orE
    by_cases h : Own.sgn a b = 0
    · have : Own.sgn b a = 0 := by omega
      simp only [h, this, ne_eq, not_true_eq_false, if_false]; exact h2
    · have : Own.sgn b a ≠ 0 := by omega
      simp only [h, this, ne_eq, not_false_eq_true, if_true]; exact h1

theorem pathC_tr : ∀ A B C, pathC A B ≤ 0 → pathC B C ≤ 0 → pathC A C = min (pathC A B) (pathC B C)
  | [], [], [], _, _ => rfl
  | [], [], _ :: _, _, _ => rfl
  | [], _ :: _, [], _, h => by unfold pathC at h; omega
  | [], b :: t, c :: u, _, h => by
    have := pathC_rng (b :: t) (c :: u)
    have e1 : pathC [] (c :: u) = -1 := rfl
    have e2 : pathC [] (b :: t) = -1 := rfl
    rw [e1, e2]; omega
  | _ :: _, [], _, h, _ => by unfold pathC at h; omega
  | a :: s, b :: t, [], _, h => by unfold pathC at h; omega
  | a :: s, b :: t, c :: u, h1, h2 => by
    have ih := pathC_tr s t u
    have r1 := TC.sgn.rng a b; have r2 := TC.sgn.rng b c
    have ra := pathC_rng s t; have rb := pathC_rng t u
    unfold pathC Own.orE at h1 h2 ⊢
    by_cases e1 : Own.sgn a b = 0
    · by_cases e2 : Own.sgn b c = 0
      · have := TC.sgn.tr a b c (by omega) (by omega)
        have e3 : Own.sgn a c = 0 := by omega
        simp only [e1, e2, e3, ne_eq, not_true_eq_false, if_false] at h1 h2 ⊢
        exact ih h1 h2
      · simp only [e1, e2, ne_eq, not_true_eq_false, not_false_eq_true, if_false, if_true] at h1 h2 ⊢
        have := TC.sgn.tr a b c (by omega) h2
        have e3 : Own.sgn a c = Own.sgn b c := by omega
        simp only [e3, e2, not_false_eq_true, if_true]
        omega
    · simp only [e1, ne_eq, not_false_eq_true, if_true] at h1
      by_cases e2 : Own.sgn b c = 0
      · simp only [e2, ne_eq, not_true_eq_false, if_false] at h2
        have := TC.sgn.tr a b c h1 (by omega)
        have e3 : Own.sgn a c = Own.sgn a b := by omega
        simp only [e1, e2, e3, ne_eq, not_false_eq_true, not_true_eq_false, if_true, if_false]
        omega
      · simp only [e2, ne_eq, not_false_eq_true, if_true] at h2
        have := TC.sgn.tr a b c h1 h2
        have e3 : Own.sgn a c ≠ 0 := by omega
        simp only [e1, e2, e3, ne_eq, not_false_eq_true, if_true]
        exact this

theorem TC.path : TC pathC := ⟨pathC_rng, pathC_anti, pathC_tr⟩

theorem TC.cmpJ : TC Own.cmpJ := by
  have h := TC.orE (TC.sgn.pull bads) (TC.orE (TC.sgn.pull (fun d : D => (d.cell 6).i)).rev (TC.orE (TC.sgn.pull vals).rev (TC.orE (TC.sgn.pull fun d : D => ((d.cell 4).els.length : Int))
    (TC.orE (TC.sgn.pull fun d : D => rankJ (d.cell 5).i) (TC.orE (TC.sgn.pull fun d : D => (d.cell 7).i) (TC.orE (TC.sgn.pull fun d : D => (d.cell 8).i) (TC.path.pull pathJ)))))))
  exact h

theorem rank_inj {x y : Int} (hx : nearF x = true) (hy : nearF y = true) (h : rankJ x = rankJ y) : x = y := by
  unfold nearF at hx hy
  simp only [decide_eq_true_eq] at hx hy
  have h1 : x = 1 ∨ x = 5 ∨ x = 3 ∨ x = 4 ∨ x = 2 := by omega
  have h2 : y = 1 ∨ y = 5 ∨ y = 3 ∨ y = 4 ∨ y = 2 := by omega
  rcases h1 with rfl | rfl | rfl | rfl | rfl <;> rcases h2 with rfl | rfl | rfl | rfl | rfl <;> first | rfl | (revert h; decide)

theorem orE_zero {x y : Int} (h : orE x y = 0) : x = 0 ∧ y = 0 := by
  unfold orE at h
  split at h
  · omega
  · rename_i h1
    exact ⟨by simpa using h1, h⟩

/-- what is alike -/
theorem cmpJ_zero {a b : D} (h : cmpJ a b = 0) : (a.cell 6).i = (b.cell 6).i ∧ (a.cell 4).els.length = (b.cell 4).els.length ∧ rankJ (a.cell 5).i = rankJ (b.cell 5).i ∧ (a.cell 7).i = (b.cell 7).i ∧ (a.cell 8).i = (b.cell 8).i ∧ bads a = bads b := by
  unfold cmpJ at h
  obtain ⟨h1, h⟩ := orE_zero h
  obtain ⟨h2, h⟩ := orE_zero h
  obtain ⟨h3, h⟩ := orE_zero h
  obtain ⟨h4, h⟩ := orE_zero h
  obtain ⟨h5, h⟩ := orE_zero h
  obtain ⟨h6, h⟩ := orE_zero h
  obtain ⟨h7, h⟩ := orE_zero h
  have := sgn_zero h1; have := sgn_zero h2; have := sgn_zero h4; have := sgn_zero h5; have := sgn_zero h6; have := sgn_zero h7
  omega

end Go.Proofs.Ytekkbhmlocageaa.Own
