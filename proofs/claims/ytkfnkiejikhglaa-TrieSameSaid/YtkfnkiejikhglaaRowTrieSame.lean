/- It is proved that the law gatepath/gatepathlaw39.TrieSame returns true for every input, and that its arguments read afterwards as they read before; without any condition. -/
import Derived.Test.YtkfnkiejikhglaaRows
import Derived.Test.YtkfnkiejikhglaaL2
import Derived.Test.YtkfnkiejikhglaaSgrow99
import Derived.KernelRfl
namespace Go.Proofs.Ytkfnkiejikhglaa.Own
open Go Go.Proofs.Ytkfnkiejikhglaa.GD Go.RowKit
theorem own:ownKnob Try.prog.godebug=none:=by kernel_rfl
theorem CK:laidOutB Try.prog=true:=by kernel_rfl
theorem Gt:TabOk Try.prog ty tab:=wi (tyL:=tyL) (tabL:=tabL) (by kernel_rfl) (by kernel_rfl) (by kernel_rfl) ⟨Sgrow99.grow_ok_99 rfl,trivial⟩
theorem Kt:KsOk Try.prog ty:=BO (tyL:=tyL) (by kernel_rfl)
def Dg:List Vk:=[⟨false,[.sl 49]⟩,⟨true,[.int .u8,.int .u64,.int .u64,.int .i64]⟩]
set_option maxRecDepth 100000 in
theorem lifted (os:Os) (lO:os.Started) (H:Type) (enc:TypeId×Value→H):
  ReturnsInHanded {} Try.checked os 6 .any (Rows.trieSameSpec.pre6 enc Try.prog Try.f6 Rows.trieSameRow.domain false) (Rows.trieSameSpec.post enc Try.prog Try.f6 false true false false):=
 ut (C:=Try.checked) (ks:=Dg) (tb:=4) (en:= .code b8) CK Gt Kt own lO (by kernel_rfl) Try.func6 (by kernel_rfl) (by kernel_rfl) (by kernel_rfl) rfl
  (by intro H ds h;rcases ds with _ |⟨d1,_ |⟨d2,_ |⟨d3,r⟩⟩⟩<;>first |rfl |simp[Dg]at h) (by kernel_rfl) rfl rfl tz
  (ChangeSpec.witness6 (enc:=enc) (C:=Try.checked) false ⟨#[], #[.slice none 0 0,.agg #[.int .u8 0,.int .u64 0,.int .u64 0,.int .i64 0]],[]⟩ 8 (by kernel_rfl) (by kernel_rfl) (by kernel_rfl) (by kernel_rfl))
end Go.Proofs.Ytkfnkiejikhglaa.Own
namespace Go.Proofs.Ytkfnkiejikhglaa
theorem trieSame_holds:Rows.TrieSameSaid:=
 OpenClaim.holds_of_wide 6 Try.f6 rfl rfl rfl rfl rfl rfl rfl ⟨rfl,rfl,rfl,rfl,rfl⟩ rfl rfl rfl rfl rfl (by kernel_rfl) Try.func6 (by kernel_rfl)
  (of_decide_eq_true (by kernel_rfl)) (by unfold Func.isWrapper;first |(rw[if_pos (by decide+kernel)];kernel_rfl) |(rw[if_neg (by decide+kernel)];exact⟨rfl,rfl⟩))
  (fun os lO H enc _=>Own.lifted os lO H enc)
#print axioms trieSame_holds
end Go.Proofs.Ytkfnkiejikhglaa
