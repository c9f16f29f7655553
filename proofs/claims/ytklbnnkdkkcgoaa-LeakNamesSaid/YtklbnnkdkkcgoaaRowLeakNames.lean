/- It is proved that the law gatepath/gatepathlaw41.LeakNames returns true for every input, and that its arguments read afterwards as they read before; without any condition. -/
import Derived.Test.YtklbnnkdkkcgoaaRows
import Derived.Test.YtklbnnkdkkcgoaaNamesL
import Derived.KernelRfl
namespace Go.Proofs.Ytklbnnkdkkcgoaa.Own
open Go Go.Proofs.Ytklbnnkdkkcgoaa.GD Go.RowKit
theorem own : ownKnob Try.prog.godebug = none := by kernel_rfl
theorem laidOut : laidOutB Try.prog = true := by kernel_rfl
theorem tabOk : TabOk Try.prog ty tab := tabOk_of (tyL := tyL) (tabL := tabL) (by kernel_rfl) (by kernel_rfl) (by kernel_rfl) (by kernel_rfl)
theorem ksOk : KsOk Try.prog ty := ksOk_of (tyL := tyL) (by kernel_rfl)
set_option maxRecDepth 100000 in
theorem lifted (os : Os) (started : os.Started) (H : Type) (enc : TypeId × Value → H) :
    ReturnsInHanded {} Try.checked os 10 .any (Rows.leakNamesSpec.pre6 enc Try.prog Try.f10 Rows.leakNamesRow.domain false) (Rows.leakNamesSpec.post enc Try.prog Try.f10 false true false false) :=
  law_returns (C := Try.checked) (ks := []) (tb := 4) (en := .code c_gatepathlaw41_LeakNames) laidOut tabOk ksOk own started (by kernel_rfl) Try.func10 (by kernel_rfl) (by kernel_rfl) (by kernel_rfl) rfl
    (by intro H ds h; rcases ds with _ | ⟨d1, r⟩ <;> first | rfl | simp at h) (by kernel_rfl) rfl rfl leakNames_law
    (ChangeSpec.witness6 (enc := enc) (C := Try.checked) false ⟨#[], #[], []⟩ 8 (by kernel_rfl) (by kernel_rfl) (by kernel_rfl) (by kernel_rfl))
end Go.Proofs.Ytklbnnkdkkcgoaa.Own
namespace Go.Proofs.Ytklbnnkdkkcgoaa
/-- The statement. -/
theorem leakNames_holds : Rows.LeakNamesSaid :=
  OpenClaim.holds_of_wide 10 Try.f10 rfl rfl rfl rfl rfl rfl rfl ⟨rfl, rfl, rfl, rfl, rfl⟩ rfl rfl rfl rfl rfl (by kernel_rfl) Try.func10 (by kernel_rfl)
    (of_decide_eq_true (by kernel_rfl)) (by unfold Func.isWrapper; first | (rw [if_pos (by decide +kernel)]; kernel_rfl) | (rw [if_neg (by decide +kernel)]; exact ⟨rfl, rfl⟩))
    (fun os started H enc _ => Own.lifted os started H enc)
#print axioms leakNames_holds
end Go.Proofs.Ytklbnnkdkkcgoaa
