/- It is proved that the law gatepath/gatepathlaw43.LocalChecks returns true for every input, and that its arguments read afterwards as they read before; without any condition. -/
import Derived.Test.YtapfhcnigmighaaRows
import Derived.Test.YtapfhcnigmighaaChecks
import Derived.Test.YtapfhcnigmighaaSbcmp34
import Derived.KernelRfl
namespace Go.Proofs.Ytapfhcnigmighaa.Own
open Go Go.Proofs.Ytapfhcnigmighaa.GD Go.RowKit
theorem own : ownKnob Try.prog.godebug = none := by kernel_rfl
theorem laidOut : laidOutB Try.prog = true := by kernel_rfl
theorem tabOk : TabOk Try.prog ty tab := tabOk_spec (tyL := tyL) (tabL := tabL) (by kernel_rfl) (by kernel_rfl) (by kernel_rfl) ⟨Sbcmp34.bcmp_ok_34 rfl, trivial⟩
theorem ksOk : KsOk Try.prog ty := ksOk_of (tyL := tyL) (by kernel_rfl)
def lawKs : List Vk := [⟨true, [.sl 53, .sl 65, .sl 51, .sl 93, .sl 81, .sl 100]⟩]
set_option maxRecDepth 100000 in
theorem lifted (os : Os) (started : os.Started) (H : Type) (enc : TypeId × Value → H) :
    ReturnsInHanded {} Try.checked os 3 .any (Rows.localChecksSpec.pre6 enc Try.prog Try.f3 Rows.localChecksRow.domain false) (Rows.localChecksSpec.post enc Try.prog Try.f3 false true false false) :=
  law_returns (C := Try.checked) (ks := lawKs) (tb := 4) (en := .code c_gatepathlaw43_LocalChecks) laidOut tabOk ksOk own started (by kernel_rfl) Try.func3 (by kernel_rfl) (by kernel_rfl) (by kernel_rfl) rfl
    (by intro H ds h; rcases ds with _ | ⟨d1, _ | ⟨d2, r⟩⟩ <;> first | rfl | simp [lawKs] at h) (by kernel_rfl) rfl rfl localChecks_law
    (ChangeSpec.witness6 (enc := enc) (C := Try.checked) false ⟨#[], #[.agg #[.slice none 0 0, .slice none 0 0, .slice none 0 0, .slice none 0 0, .slice none 0 0, .slice none 0 0]], []⟩ 8 (by kernel_rfl) (by kernel_rfl) (by kernel_rfl) (by kernel_rfl))
end Go.Proofs.Ytapfhcnigmighaa.Own
namespace Go.Proofs.Ytapfhcnigmighaa
/-- The statement. -/
theorem localChecks_holds : Rows.LocalChecksSaid :=
  OpenClaim.holds_of_wide 3 Try.f3 rfl rfl rfl rfl rfl rfl rfl ⟨rfl, rfl, rfl, rfl, rfl⟩ rfl rfl rfl rfl rfl (by kernel_rfl) Try.func3 (by kernel_rfl)
    (of_decide_eq_true (by kernel_rfl)) (by unfold Func.isWrapper; first | (rw [if_pos (by decide +kernel)]; kernel_rfl) | (rw [if_neg (by decide +kernel)]; exact ⟨rfl, rfl⟩))
    (fun os started H enc _ => Own.lifted os started H enc)
#print axioms localChecks_holds
end Go.Proofs.Ytapfhcnigmighaa
