/- It is proved that the law gatepath/gatepathlaw15.AspaChecks returns true for every input, and that its arguments read afterwards as they read before; without any condition. -/
import Derived.Test.YtomlgapciogbdaaRows
import Derived.Test.YtomlgapciogbdaaChecks
import Derived.KernelRfl
namespace Go.Proofs.Ytomlgapciogbdaa.Own
open Go Go.Proofs.Ytomlgapciogbdaa.GD Go.RowKit
theorem own : ownKnob Try.prog.godebug = none := by kernel_rfl
theorem laidOut : laidOutB Try.prog = true := by kernel_rfl
theorem tabOk : TabOk Try.prog ty tab := tabOk_of (tyL := tyL) (tabL := tabL) (by kernel_rfl) (by kernel_rfl) (by kernel_rfl) (by kernel_rfl)
theorem ksOk : KsOk Try.prog ty := ksOk_of (tyL := tyL) (by kernel_rfl)
set_option maxRecDepth 100000 in
theorem lifted (os : Os) (started : os.Started) (H : Type) (enc : TypeId × Value → H) :
    ReturnsInHanded {} Try.checked os 3 .any (Rows.aspaChecksSpec.pre6 enc Try.prog Try.f3 Rows.aspaChecksRow.domain false) (Rows.aspaChecksSpec.post enc Try.prog Try.f3 false true false false) :=
  law_returns (C := Try.checked) (ks := [⟨true, [.int .u32, .sl 22]⟩, ⟨true, [.int .u32, .sl 22]⟩]) (tb := 4) (en := .code c_gatepathlaw15_AspaChecks) laidOut tabOk ksOk own started (by kernel_rfl) Try.func3 (by kernel_rfl) (by kernel_rfl) (by kernel_rfl) rfl
    (by intro H ds h; rcases ds with _ | ⟨d1, _ | ⟨d2, _ | ⟨d3, r⟩⟩⟩ <;> first | rfl | simp at h) (by kernel_rfl) rfl rfl aspaChecks_law
    (ChangeSpec.witness6 (enc := enc) (C := Try.checked) false ⟨#[], #[.agg #[.int .u32 0, .slice none 0 0], .agg #[.int .u32 0, .slice none 0 0]], []⟩ 8 (by kernel_rfl) (by kernel_rfl) (by kernel_rfl) (by kernel_rfl))
end Go.Proofs.Ytomlgapciogbdaa.Own
namespace Go.Proofs.Ytomlgapciogbdaa
/-- The statement. -/
theorem aspaChecks_holds : Rows.AspaChecksSaid :=
  OpenClaim.holds_of_wide 3 Try.f3 rfl rfl rfl rfl rfl rfl rfl ⟨rfl, rfl, rfl, rfl, rfl⟩ rfl rfl rfl rfl rfl (by kernel_rfl) Try.func3 (by kernel_rfl)
    (of_decide_eq_true (by kernel_rfl)) (by unfold Func.isWrapper; first | (rw [if_pos (by decide +kernel)]; kernel_rfl) | (rw [if_neg (by decide +kernel)]; exact ⟨rfl, rfl⟩))
    (fun os started H enc _ => Own.lifted os started H enc)
#print axioms aspaChecks_holds
end Go.Proofs.Ytomlgapciogbdaa
