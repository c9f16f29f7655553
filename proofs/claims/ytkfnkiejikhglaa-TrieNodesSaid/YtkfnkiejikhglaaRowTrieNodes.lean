/- It is proved that the law gatepath/gatepathlaw39.TrieNodes returns true for every input, and that its arguments read afterwards as they read before; without any condition. -/
import Derived.Test.YtkfnkiejikhglaaRows
import Derived.Test.YtkfnkiejikhglaaL2
import Derived.Test.YtkfnkiejikhglaaSgrow99
import Derived.KernelRfl
namespace Go.Proofs.Ytkfnkiejikhglaa.Own
open Go Go.Proofs.Ytkfnkiejikhglaa.GD Go.RowKit
theorem own : ownKnob Try.prog.godebug = none := by kernel_rfl
theorem laidOut : laidOutB Try.prog = true := by kernel_rfl
theorem tabOk : TabOk Try.prog ty tab := tabOk_spec (tyL := tyL) (tabL := tabL) (by kernel_rfl) (by kernel_rfl) (by kernel_rfl) ⟨Sgrow99.grow_ok_99 rfl, trivial⟩
theorem ksOk : KsOk Try.prog ty := ksOk_of (tyL := tyL) (by kernel_rfl)
def lawKs : List Vk := [⟨true, [.sl 69, .sl 69]⟩]
set_option maxRecDepth 100000 in
theorem lifted (os : Os) (started : os.Started) (H : Type) (enc : TypeId × Value → H) :
    ReturnsInHanded {} Try.checked os 5 .any (Rows.trieNodesSpec.pre6 enc Try.prog Try.f5 Rows.trieNodesRow.domain false) (Rows.trieNodesSpec.post enc Try.prog Try.f5 false true false false) :=
  law_returns (C := Try.checked) (ks := lawKs) (tb := 4) (en := .code c_gatepathlaw39_TrieNodes) laidOut tabOk ksOk own started (by kernel_rfl) Try.func5 (by kernel_rfl) (by kernel_rfl) (by kernel_rfl) rfl
    (by intro H ds h; rcases ds with _ | ⟨d1, _ | ⟨d2, r⟩⟩ <;> first | rfl | simp [lawKs] at h) (by kernel_rfl) rfl rfl trieNodes_law
    (ChangeSpec.witness6 (enc := enc) (C := Try.checked) false ⟨#[], #[.agg #[.slice none 0 0, .slice none 0 0]], []⟩ 8 (by kernel_rfl) (by kernel_rfl) (by kernel_rfl) (by kernel_rfl))
end Go.Proofs.Ytkfnkiejikhglaa.Own
namespace Go.Proofs.Ytkfnkiejikhglaa
/-- The statement. -/
theorem trieNodes_holds : Rows.TrieNodesSaid :=
  OpenClaim.holds_of_wide 5 Try.f5 rfl rfl rfl rfl rfl rfl rfl ⟨rfl, rfl, rfl, rfl, rfl⟩ rfl rfl rfl rfl rfl (by kernel_rfl) Try.func5 (by kernel_rfl)
    (of_decide_eq_true (by kernel_rfl)) (by unfold Func.isWrapper; first | (rw [if_pos (by decide +kernel)]; kernel_rfl) | (rw [if_neg (by decide +kernel)]; exact ⟨rfl, rfl⟩))
    (fun os started H enc _ => Own.lifted os started H enc)
#print axioms trieNodes_holds
end Go.Proofs.Ytkfnkiejikhglaa
