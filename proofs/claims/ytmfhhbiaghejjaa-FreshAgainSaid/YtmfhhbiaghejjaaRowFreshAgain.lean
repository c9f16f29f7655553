/- It is proved that the law gatepath/gatepathlaw29.FreshAgain returns true for every input, and that its arguments read afterwards as they read before; without any condition. -/
import Derived.Test.YtmfhhbiaghejjaaRows
import Derived.Test.YtmfhhbiaghejjaaAgain
import Derived.Test.YtmfhhbiaghejjaaSins42
import Derived.KernelRfl
namespace Go.Proofs.Ytmfhhbiaghejjaa.Own
open Go Go.Proofs.Ytmfhhbiaghejjaa.GD Go.RowKit
theorem own : ownKnob Try.prog.godebug = none := by kernel_rfl
theorem laidOut : laidOutB Try.prog = true := by kernel_rfl
theorem tabOk : TabOk Try.prog ty tab := tabOk_spec (tyL := tyL) (tabL := tabL) (by kernel_rfl) (by kernel_rfl) (by kernel_rfl) ⟨Sins42.ins_ok_42 rfl, trivial⟩
theorem ksOk : KsOk Try.prog ty := ksOk_of (tyL := tyL) (by kernel_rfl)
def lawKs : List Vk := [⟨false, [.sl 47]⟩, ⟨true, [.str, .int .u64, .int .u8, .int .u8, .int .u8, .int .u8, .int .u8, .int .u8, .int .u8, .int .u8, .int .u8, .int .u8, .int .u8, .int .u8, .int .u8, .int .u8, .int .u8, .int .u8, .int .u8, .int .u8, .int .u8, .int .u8, .int .u8, .int .u8, .int .u8, .int .u8, .int .u8, .int .u8, .int .u8, .int .u8, .int .u8, .int .u8, .int .u8, .int .u8, .int .i64, .int .i64, .int .i64]⟩, ⟨false, [.int .i64]⟩, ⟨false, [.int .u64]⟩]
set_option maxRecDepth 100000 in
theorem lifted (os : Os) (started : os.Started) (H : Type) (enc : TypeId × Value → H) :
    ReturnsInHanded {} Try.checked os 7 .any (Rows.freshAgainSpec.pre6 enc Try.prog Try.f7 Rows.freshAgainRow.domain false) (Rows.freshAgainSpec.post enc Try.prog Try.f7 false true false false) :=
  law_returns (C := Try.checked) (ks := lawKs) (tb := 4) (en := .code c_gatepathlaw29_FreshAgain) laidOut tabOk ksOk own started (by kernel_rfl) Try.func7 (by kernel_rfl) (by kernel_rfl) (by kernel_rfl) rfl
    (by intro H ds h; rcases ds with _ | ⟨d1, _ | ⟨d2, _ | ⟨d3, _ | ⟨d4, _ | ⟨d5, r⟩⟩⟩⟩⟩ <;> first | rfl | simp [lawKs] at h) (by kernel_rfl) rfl rfl freshAgain_law
    (ChangeSpec.witness6 (enc := enc) (C := Try.checked) false ⟨#[], #[.slice none 0 0, .agg #[.string ByteArray.empty, .int .u64 0, .int .u8 0, .int .u8 0, .int .u8 0, .int .u8 0, .int .u8 0, .int .u8 0, .int .u8 0, .int .u8 0, .int .u8 0, .int .u8 0, .int .u8 0, .int .u8 0, .int .u8 0, .int .u8 0, .int .u8 0, .int .u8 0, .int .u8 0, .int .u8 0, .int .u8 0, .int .u8 0, .int .u8 0, .int .u8 0, .int .u8 0, .int .u8 0, .int .u8 0, .int .u8 0, .int .u8 0, .int .u8 0, .int .u8 0, .int .u8 0, .int .u8 0, .int .u8 0, .int .i64 0, .int .i64 0, .int .i64 0], .int .i64 0, .int .u64 0], []⟩ 8 (by kernel_rfl) (by kernel_rfl) (by kernel_rfl) (by kernel_rfl))
end Go.Proofs.Ytmfhhbiaghejjaa.Own
namespace Go.Proofs.Ytmfhhbiaghejjaa
/-- The statement. -/
theorem freshAgain_holds : Rows.FreshAgainSaid :=
  OpenClaim.holds_of_wide 7 Try.f7 rfl rfl rfl rfl rfl rfl rfl ⟨rfl, rfl, rfl, rfl, rfl⟩ rfl rfl rfl rfl rfl (by kernel_rfl) Try.func7 (by kernel_rfl)
    (of_decide_eq_true (by kernel_rfl)) (by unfold Func.isWrapper; first | (rw [if_pos (by decide +kernel)]; kernel_rfl) | (rw [if_neg (by decide +kernel)]; exact ⟨rfl, rfl⟩))
    (fun os started H enc _ => Own.lifted os started H enc)
#print axioms freshAgain_holds
end Go.Proofs.Ytmfhhbiaghejjaa
