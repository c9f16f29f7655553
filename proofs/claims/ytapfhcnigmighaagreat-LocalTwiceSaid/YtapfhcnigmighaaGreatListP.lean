import Derived.Test.YtapfhcnigmighaaGreatG4
set_option linter.unusedVariables false
namespace Go.Proofs.YtapfhcnigmighaaGreat.GD
open Go
def idxT (p : D → Bool) : List D → Nat → Int
 | [], _ => -1
 | d :: l, i => if p d = true then (i : Int) else idxT p l (i + 1)
theorem idxT_none {p : D → Bool} : ∀ {l : List D} {i : Nat}, idxT p l i = -1 → l.filter (fun d => !p d) = l
 | [], _, _ => rfl
 | d :: l, i, h => by
  unfold idxT at h
  split at h
  · omega
  · rename_i hp
    rw [List.filter_cons, if_pos (by simp [hp]), idxT_none h]
theorem idxT_some {p : D → Bool} : ∀ {l : List D} {i : Nat}, idxT p l i ≠ -1 → ∃ j : Nat, idxT p l i = ((i + j : Nat) : Int) ∧ j < l.length ∧ (l.take j).filter (fun d => !p d) = l.take j ∧ p (l.getD j .undef) = true
 | [], _, h => (h rfl).elim
 | d :: l, i, h => by
  unfold idxT at h ⊢
  split
  · rename_i hp
    exact ⟨0, rfl, by simp, rfl, by simpa using hp⟩
  · rename_i hp
    rw [if_neg hp] at h
    obtain ⟨j, h1, h2, h3, h4⟩ := idxT_some h
    refine ⟨j + 1, by rw [h1]; omega, by simpa using h2, ?_, by simpa using h4⟩
    rw [List.take_succ_cons, List.filter_cons, if_pos (by simp [hp]), h3]
theorem idxT_ge {p : D → Bool} (l : List D) (i : Nat) : decide (0 ≤ idxT p l i) = l.any p := by
 induction l generalizing i with
 | nil => rfl
 | cons d l ih =>
  unfold idxT
  split
  · rename_i h; simp [h]
  · rename_i h; rw [ih]; simp [h]
theorem thin_put {p : D → Bool} {l els : List D} {i j : Nat} (hlen : els.length = l.length) (hij : i ≤ j) (hj : j < l.length) (h1 : els.take i = (l.take j).filter (fun d => !p d)) (h2 : els.drop j = l.drop j) (hp : p (l.getD j .undef) = false) :
  (els.set i (l.getD j .undef)).length = l.length ∧ (els.set i (l.getD j .undef)).take (i + 1) = (l.take (j + 1)).filter (fun d => !p d) ∧ (els.set i (l.getD j .undef)).drop (j + 1) = l.drop (j + 1) := by
 have e1 : l.getD j .undef = l[j] := by simp [zq1, hj]
 refine ⟨by simpa using hlen, ?_, ?_⟩
 · rw [List.take_add_one, List.take_set_of_le (Nat.le_refl _), h1, List.take_add_one, List.filter_append]
   rw [e1] at hp ⊢
   simp [hj, show i < els.length by omega, hp]
 · rw [List.drop_set_of_lt (by omega)]
   have := congrArg (List.drop 1) h2
   simpa [List.drop_drop, Nat.add_comm] using this
theorem thin_skip {p : D → Bool} {l els : List D} {i j : Nat} (hj : j < l.length) (h1 : els.take i = (l.take j).filter (fun d => !p d)) (h2 : els.drop j = l.drop j) (hp : p (l.getD j .undef) = true) :
  els.take i = (l.take (j + 1)).filter (fun d => !p d) ∧ els.drop (j + 1) = l.drop (j + 1) := by
 have e1 : l.getD j .undef = l[j] := by simp [zq1, hj]
 refine ⟨?_, ?_⟩
 · rw [h1, List.take_add_one, List.filter_append]
   rw [e1] at hp
   simp [hj, hp]
 · have := congrArg (List.drop 1) h2
   simpa [List.drop_drop, Nat.add_comm] using this
theorem thin_get {l els : List D} {j : Nat} (hlen : els.length = l.length) (hj : j < l.length) (h2 : els.drop j = l.drop j) : els.getD j .undef = l.getD j .undef := by
 have := congrArg (fun x => x[0]?) h2
 simp only [List.getElem?_drop, Nat.add_zero] at this
 simp [zq1, this]
end Go.Proofs.YtapfhcnigmighaaGreat.GD
