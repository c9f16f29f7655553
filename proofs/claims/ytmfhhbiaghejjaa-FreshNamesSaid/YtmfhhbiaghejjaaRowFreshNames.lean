/- It is proved that the law gatepath/gatepathlaw29.FreshNames returns true for every input, and that its arguments read afterwards as they read before; without any condition. -/
import Derived.Test.YtmfhhbiaghejjaaRows
import Derived.Test.YtmfhhbiaghejjaaNamesL
import Derived.Test.YtmfhhbiaghejjaaSins42
import Derived.KernelRfl
namespace Go.Proofs.Ytmfhhbiaghejjaa.Own
open Go Go.Proofs.Ytmfhhbiaghejjaa.GD Go.RowKit
theorem own : ownKnob Try.prog.godebug = none := by kernel_rfl
theorem laidOut : laidOutB Try.prog = true := by kernel_rfl
theorem tabOk : TabOk Try.prog ty tab := tabOk_spec (tyL := tyL) (tabL := tabL) (by kernel_rfl) (by kernel_rfl) (by kernel_rfl) ⟨Sins42.ins_ok_42 rfl, trivial⟩
theorem ksOk : KsOk Try.prog ty := ksOk_of (tyL := tyL) (by kernel_rfl)
def lawKs : List Vk := []
set_option maxRecDepth 100000 in
theorem lifted (os : Os) (started : os.Started) (H : Type) (enc : TypeId × Value → H) :
    ReturnsInHanded {} Try.checked os 10 .any (Rows.freshNamesSpec.pre6 enc Try.prog Try.f10 Rows.freshNamesRow.domain false) (Rows.freshNamesSpec.post enc Try.prog Try.f10 false true false false) :=
  law_returns (C := Try.checked) (ks := lawKs) (tb := 4) (en := .code c_gatepathlaw29_FreshNames) laidOut tabOk ksOk own started (by kernel_rfl) Try.func10 (by kernel_rfl) (by kernel_rfl) (by kernel_rfl) rfl
    (by intro H ds h; rcases ds with _ | ⟨d1, r⟩ <;> first | rfl | simp [lawKs] at h) (by kernel_rfl) rfl rfl freshNames_law
    (ChangeSpec.witness6 (enc := enc) (C := Try.checked) false ⟨#[], #[], []⟩ 8 (by kernel_rfl) (by kernel_rfl) (by kernel_rfl) (by kernel_rfl))
end Go.Proofs.Ytmfhhbiaghejjaa.Own
namespace Go.Proofs.Ytmfhhbiaghejjaa
/-- The statement. -/
theorem freshNames_holds : Rows.FreshNamesSaid :=
  OpenClaim.holds_of_wide 10 Try.f10 rfl rfl rfl rfl rfl rfl rfl ⟨rfl, rfl, rfl, rfl, rfl⟩ rfl rfl rfl rfl rfl (by kernel_rfl) Try.func10 (by kernel_rfl)
    (of_decide_eq_true (by kernel_rfl)) (by unfold Func.isWrapper; first | (rw [if_pos (by decide +kernel)]; kernel_rfl) | (rw [if_neg (by decide +kernel)]; exact ⟨rfl, rfl⟩))
    (fun os started H enc _ => Own.lifted os started H enc)
#print axioms freshNames_holds
end Go.Proofs.Ytmfhhbiaghejjaa
