/- It is proved that the law gatepath/gatepathlaw29.FreshOrder returns true for every input, and that its arguments read afterwards as they read before; without any condition. -/
import Derived.Test.YtmfhhbiaghejjaaRows
import Derived.Test.YtmfhhbiaghejjaaOrder
import Derived.KernelRfl
namespace Go.Proofs.Ytmfhhbiaghejjaa.Own
open Go Go.Proofs.Ytmfhhbiaghejjaa.GD Go.RowKit
theorem own : ownKnob Try.prog.godebug = none := by kernel_rfl
theorem laidOut : laidOutB Try.prog = true := by kernel_rfl
theorem tabOk : TabOk Try.prog ty tab := tabOk_of (tyL := tyL) (tabL := tabL) (by kernel_rfl) (by kernel_rfl) (by kernel_rfl) (by kernel_rfl)
theorem ksOk : KsOk Try.prog ty := ksOk_of (tyL := tyL) (by kernel_rfl)
set_option maxRecDepth 100000 in
theorem lifted (os : Os) (started : os.Started) (H : Type) (enc : TypeId × Value → H) :
    ReturnsInHanded {} Try.checked os 9 .any (Rows.freshOrderSpec.pre6 enc Try.prog Try.f9 Rows.freshOrderRow.domain false) (Rows.freshOrderSpec.post enc Try.prog Try.f9 false true false false) :=
  law_returns (C := Try.checked) (ks := [⟨false, [.sl 47]⟩, ⟨false, [.sl 47]⟩, ⟨false, [.sl 47]⟩]) (tb := 4) (en := .code c_gatepathlaw29_FreshOrder) laidOut tabOk ksOk own started (by kernel_rfl) Try.func9 (by kernel_rfl) (by kernel_rfl) (by kernel_rfl) rfl
    (by intro H ds h; rcases ds with _ | ⟨d1, _ | ⟨d2, _ | ⟨d3, _ | ⟨d4, r⟩⟩⟩⟩ <;> first | rfl | simp at h) (by kernel_rfl) rfl rfl freshOrder_law
    (ChangeSpec.witness6 (enc := enc) (C := Try.checked) false ⟨#[], #[.slice none 0 0, .slice none 0 0, .slice none 0 0], []⟩ 8 (by kernel_rfl) (by kernel_rfl) (by kernel_rfl) (by kernel_rfl))
end Go.Proofs.Ytmfhhbiaghejjaa.Own
namespace Go.Proofs.Ytmfhhbiaghejjaa
/-- The statement. -/
theorem freshOrder_holds : Rows.FreshOrderSaid :=
  OpenClaim.holds_of_wide 9 Try.f9 rfl rfl rfl rfl rfl rfl rfl ⟨rfl, rfl, rfl, rfl, rfl⟩ rfl rfl rfl rfl rfl (by kernel_rfl) Try.func9 (by kernel_rfl)
    (of_decide_eq_true (by kernel_rfl)) (by unfold Func.isWrapper; first | (rw [if_pos (by decide +kernel)]; kernel_rfl) | (rw [if_neg (by decide +kernel)]; exact ⟨rfl, rfl⟩))
    (fun os started H enc _ => Own.lifted os started H enc)
#print axioms freshOrder_holds
end Go.Proofs.Ytmfhhbiaghejjaa
