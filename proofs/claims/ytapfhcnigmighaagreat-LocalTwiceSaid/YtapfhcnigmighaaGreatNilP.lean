import Derived.Test.YtapfhcnigmighaaGreatTwiP
import Derived.Test.YtapfhcnigmighaaGreatJoin
import Derived.Test.YtapfhcnigmighaaGreatAl
set_option linter.unusedVariables false
set_option linter.unusedSimpArgs false
namespace Go.Proofs.YtapfhcnigmighaaGreat.Own
open Go Go.Proofs.YtapfhcnigmighaaGreat.GD
theorem filt_all {l : List D} {f : D → Bool} (h : ∀ d, f d = true) : l.filter f = l := List.filter_eq_self.2 fun d _ => h d
theorem mO_nil (l : List D) : mO l [] = l := by cases l <;> (unfold mO; rw [mrg])
theorem mP_nil (l : List D) : mP l [] = l := by cases l <;> (unfold mP; rw [mrg])
theorem mK_nil (l : List D) : mK l [] = l := by cases l <;> (unfold mK; rw [mrg])
theorem xg_nil : Xg nilRul := xg_rul _ _ _ _ _ _ jn_nil sh_nil.pay
theorem xC_nil : xC nilRul = 0 := by
 show (if 100 < ([] : List D).length ∨ 100 < ([] : List D).length ∨ 100 < ([] : List D).length then (4 : Int) else if risF goodF ltF [] = true ∧ risF goodY ltY [] = true ∧ risF goodC ltC [] = true then payC [] [] [] else 8) = 0
 rw [if_neg (by simp), if_pos ⟨rfl, rfl, rfl⟩]
 exact payC_of (by simp [longP]) rfl rfl rfl
theorem nn_mrg {p p' : List D} (h : NnL p) (h' : NnL p') (g : ∀ x, x ∈ p → ∀ y, y ∈ p' → Nn (unD x y)) : NnL (mP p p') := mrg_all p p' h h' fun x hx y hy => (g x hx y hy).nb
end Go.Proofs.YtapfhcnigmighaaGreat.Own
