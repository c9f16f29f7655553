/- It is proved that the law gatepath/gatepathlaw43.LocalNames returns true for every input, and that its arguments read afterwards as they read before; without any condition. -/
import Derived.Test.YtapfhcnigmighaaGreatRows
import Derived.Test.YtapfhcnigmighaaGreatL1
import Derived.Test.YtapfhcnigmighaaGreatSbcmp93
import Derived.Test.YtapfhcnigmighaaGreatSgrow153
import Derived.Test.YtapfhcnigmighaaGreatSorted
import Derived.KernelRfl
namespace Go.Proofs.YtapfhcnigmighaaGreat.Own
open Go Go.Proofs.YtapfhcnigmighaaGreat.GD Go.RowKit
theorem own : ownKnob Tryz.prog.godebug = none := by kernel_rfl
theorem laidOut : laidOutB Tryz.prog = true := by kernel_rfl
theorem tabOk : TabOk Tryz.prog ty tab := tabOk_spec (tyL := tyL) (tabL := tabL) (by kernel_rfl) (by kernel_rfl) (by kernel_rfl) ⟨Sbcmp93.bcmp_ok_93 rfl, ⟨Sgrow153.grow_ok_153 rfl, ⟨sorted_ok_140 rfl, ⟨keys_ok_141 rfl, trivial⟩⟩⟩⟩
theorem ksOk : KsOk Tryz.prog ty := ksOk_of (tyL := tyL) (by kernel_rfl)
def lawKs : List Vk := []
set_option maxRecDepth 100000 in
theorem lifted (os : Os) (started : os.Started) (H : Type) (enc : TypeId × Value → H) :
    ReturnsInHanded {} Tryz.checked os 7 .any (Rows.localNamesSpec.pre6 enc Tryz.prog Tryz.f7 Rows.localNamesRow.domain false) (Rows.localNamesSpec.post enc Tryz.prog Tryz.f7 false true false false) :=
  law_returns (C := Tryz.checked) (ks := lawKs) (tb := 4) (en := .code c_gatepathlaw43_LocalNames) laidOut tabOk ksOk own started (by kernel_rfl) Tryz.func7 (by kernel_rfl) (by kernel_rfl) (by kernel_rfl) rfl
    (by intro H ds h; rcases ds with _ | ⟨d1, r⟩ <;> first | rfl | simp [lawKs] at h) (by kernel_rfl) rfl rfl localNames_law
    (ChangeSpec.witness6 (enc := enc) (C := Tryz.checked) false ⟨#[], #[], []⟩ 8 (by kernel_rfl) (by kernel_rfl) (by kernel_rfl) (by kernel_rfl))
end Go.Proofs.YtapfhcnigmighaaGreat.Own
namespace Go.Proofs.YtapfhcnigmighaaGreat
/-- The statement. -/
theorem localNames_holds : Rows.LocalNamesSaid :=
  OpenClaim.holds_of_wide 7 Tryz.f7 rfl rfl rfl rfl rfl rfl rfl ⟨rfl, rfl, rfl, rfl, rfl⟩ rfl rfl rfl rfl rfl (by kernel_rfl) Tryz.func7 (by kernel_rfl)
    (of_decide_eq_true (by kernel_rfl)) (by unfold Func.isWrapper; first | (rw [if_pos (by decide +kernel)]; kernel_rfl) | (rw [if_neg (by decide +kernel)]; exact ⟨rfl, rfl⟩))
    (fun os started H enc _ => Own.lifted os started H enc)
#print axioms localNames_holds
end Go.Proofs.YtapfhcnigmighaaGreat
