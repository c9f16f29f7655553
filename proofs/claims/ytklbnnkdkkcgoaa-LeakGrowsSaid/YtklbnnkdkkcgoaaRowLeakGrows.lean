/- It is proved that the law gatepath/gatepathlaw41.LeakGrows returns true for every input, and that its arguments read afterwards as they read before; without any condition. -/
import Derived.Test.YtklbnnkdkkcgoaaRows
import Derived.Test.YtklbnnkdkkcgoaaGrow
import Derived.KernelRfl
namespace Go.Proofs.Ytklbnnkdkkcgoaa.Own
open Go Go.Proofs.Ytklbnnkdkkcgoaa.GD Go.RowKit
theorem own : ownKnob Try.prog.godebug = none := by kernel_rfl
theorem laidOut : laidOutB Try.prog = true := by kernel_rfl
theorem tabOk : TabOk Try.prog ty tab := tabOk_of (tyL := tyL) (tabL := tabL) (by kernel_rfl) (by kernel_rfl) (by kernel_rfl) (by kernel_rfl)
theorem ksOk : KsOk Try.prog ty := ksOk_of (tyL := tyL) (by kernel_rfl)
set_option maxRecDepth 100000 in
theorem lifted (os : Os) (started : os.Started) (H : Type) (enc : TypeId × Value → H) :
    ReturnsInHanded {} Try.checked os 5 .any (Rows.leakGrowsSpec.pre6 enc Try.prog Try.f5 Rows.leakGrowsRow.domain false) (Rows.leakGrowsSpec.post enc Try.prog Try.f5 false true false false) :=
  law_returns (C := Try.checked) (ks := [⟨false, [.sl 46]⟩, ⟨false, [.sl 23]⟩, ⟨true, [.int .u32, .sl 23]⟩]) (tb := 4) (en := .code c_gatepathlaw41_LeakGrows) laidOut tabOk ksOk own started (by kernel_rfl) Try.func5 (by kernel_rfl) (by kernel_rfl) (by kernel_rfl) rfl
    (by intro H ds h; rcases ds with _ | ⟨d1, _ | ⟨d2, _ | ⟨d3, _ | ⟨d4, r⟩⟩⟩⟩ <;> first | rfl | simp at h) (by kernel_rfl) rfl rfl leakGrows_law
    (ChangeSpec.witness6 (enc := enc) (C := Try.checked) false ⟨#[], #[.slice none 0 0, .slice none 0 0, .agg #[.int .u32 0, .slice none 0 0]], []⟩ 8 (by kernel_rfl) (by kernel_rfl) (by kernel_rfl) (by kernel_rfl))
end Go.Proofs.Ytklbnnkdkkcgoaa.Own
namespace Go.Proofs.Ytklbnnkdkkcgoaa
/-- The statement. -/
theorem leakGrows_holds : Rows.LeakGrowsSaid :=
  OpenClaim.holds_of_wide 5 Try.f5 rfl rfl rfl rfl rfl rfl rfl ⟨rfl, rfl, rfl, rfl, rfl⟩ rfl rfl rfl rfl rfl (by kernel_rfl) Try.func5 (by kernel_rfl)
    (of_decide_eq_true (by kernel_rfl)) (by unfold Func.isWrapper; first | (rw [if_pos (by decide +kernel)]; kernel_rfl) | (rw [if_neg (by decide +kernel)]; exact ⟨rfl, rfl⟩))
    (fun os started H enc _ => Own.lifted os started H enc)
#print axioms leakGrows_holds
end Go.Proofs.Ytklbnnkdkkcgoaa
