/- It is proved that the law gatepath/gatepathlaw44.PolicyOthers returns true for every input, and that its arguments read afterwards as they read before; without any condition. -/
import Derived.Test.YtekkbhmlocageaaRows
import Derived.Test.YtekkbhmlocageaaOthers
import Derived.KernelRfl
namespace Go.Proofs.Ytekkbhmlocageaa.Own
open Go Go.Proofs.Ytekkbhmlocageaa.GD Go.RowKit
theorem own : ownKnob Try.prog.godebug = none := by kernel_rfl
theorem laidOut : laidOutB Try.prog = true := by kernel_rfl
theorem tabOk : TabOk Try.prog ty tab := tabOk_of (tyL := tyL) (tabL := tabL) (by kernel_rfl) (by kernel_rfl) (by kernel_rfl) (by kernel_rfl)
theorem ksOk : KsOk Try.prog ty := ksOk_of (tyL := tyL) (by kernel_rfl)
def lawKs : List Vk := [⟨true, [.int .u8, .int .u8]⟩, ⟨false, [.sl 39]⟩, ⟨false, [.int .i64]⟩]
set_option maxRecDepth 100000 in
theorem lifted (os : Os) (started : os.Started) (H : Type) (enc : TypeId × Value → H) :
    ReturnsInHanded {} Try.checked os 6 .any (Rows.policyOthersSpec.pre6 enc Try.prog Try.f6 Rows.policyOthersRow.domain false) (Rows.policyOthersSpec.post enc Try.prog Try.f6 false true false false) :=
  law_returns (C := Try.checked) (ks := lawKs) (tb := 4) (en := .code c_gatepathlaw44_PolicyOthers) laidOut tabOk ksOk own started (by kernel_rfl) Try.func6 (by kernel_rfl) (by kernel_rfl) (by kernel_rfl) rfl
    (by intro H ds h; rcases ds with _ | ⟨d1, _ | ⟨d2, _ | ⟨d3, _ | ⟨d4, r⟩⟩⟩⟩ <;> first | rfl | simp [lawKs] at h) (by kernel_rfl) rfl rfl policyOthers_law
    (ChangeSpec.witness6 (enc := enc) (C := Try.checked) false ⟨#[], #[.agg #[.int .u8 0, .int .u8 0], .slice none 0 0, .int .i64 0], []⟩ 8 (by kernel_rfl) (by kernel_rfl) (by kernel_rfl) (by kernel_rfl))
end Go.Proofs.Ytekkbhmlocageaa.Own
namespace Go.Proofs.Ytekkbhmlocageaa
/-- The statement. -/
theorem policyOthers_holds : Rows.PolicyOthersSaid :=
  OpenClaim.holds_of_wide 6 Try.f6 rfl rfl rfl rfl rfl rfl rfl ⟨rfl, rfl, rfl, rfl, rfl⟩ rfl rfl rfl rfl rfl (by kernel_rfl) Try.func6 (by kernel_rfl)
    (of_decide_eq_true (by kernel_rfl)) (by unfold Func.isWrapper; first | (rw [if_pos (by decide +kernel)]; kernel_rfl) | (rw [if_neg (by decide +kernel)]; exact ⟨rfl, rfl⟩))
    (fun os started H enc _ => Own.lifted os started H enc)
#print axioms policyOthers_holds
end Go.Proofs.Ytekkbhmlocageaa
