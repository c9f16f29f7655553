/- It is proved that the law gatepath/gatepathlaw39.TrieFinds returns true for every input, and that its arguments read afterwards as they read before; without any condition. -/
import Derived.Test.YtkfnkiejikhglaaRows
import Derived.Test.YtkfnkiejikhglaaL2
import Derived.Test.YtkfnkiejikhglaaSgrow99
import Derived.KernelRfl
namespace Go.Proofs.Ytkfnkiejikhglaa.Own
open Go Go.Proofs.Ytkfnkiejikhglaa.GD Go.RowKit
theorem own:ownKnob Try.prog.godebug=none:=by kernel_rfl
theorem EY:laidOutB Try.prog=true:=by kernel_rfl
theorem Iz:TabOk Try.prog ty tab:=yF (tyL:=tyL) (tabL:=tabL) (by kernel_rfl) (by kernel_rfl) (by kernel_rfl) ⟨Sgrow99.grow_ok_99 rfl,trivial⟩
theorem KE:KsOk Try.prog ty:=Eb (tyL:=tyL) (by kernel_rfl)
def FE:List Vk:=[⟨true,[.sl 69,.sl 69]⟩,⟨true,[.int .u8,.int .u64,.int .u64,.int .i64]⟩,⟨false,[.int .u8]⟩,⟨true,[.int .u64,.int .u64]⟩]
set_option maxRecDepth 100000 in
theorem lifted (os:Os) (nM:os.Started) (H:Type) (enc:TypeId×Value→H):
  ReturnsInHanded {} Try.checked os 4 .any (Rows.trieFindsSpec.pre6 enc Try.prog Try.f4 Rows.trieFindsRow.domain false) (Rows.trieFindsSpec.post enc Try.prog Try.f4 false true false false):=
 wJ (C:=Try.checked) (ks:=FE) (tb:=4) (en:= .code cF) EY Iz KE own nM (by kernel_rfl) Try.func4 (by kernel_rfl) (by kernel_rfl) (by kernel_rfl) rfl
  (by intro H ds h;rcases ds with _ |⟨d1,_ |⟨d2,_ |⟨d3,_ |⟨d4,_ |⟨d5,r⟩⟩⟩⟩⟩<;>first |rfl |simp[FE]at h) (by kernel_rfl) rfl rfl sZ
  (ChangeSpec.witness6 (enc:=enc) (C:=Try.checked) false ⟨#[], #[.agg #[.slice none 0 0,.slice none 0 0],.agg #[.int .u8 0,.int .u64 0,.int .u64 0,.int .i64 0],.int .u8 0,.agg #[.int .u64 0,.int .u64 0]],[]⟩ 8 (by kernel_rfl) (by kernel_rfl) (by kernel_rfl) (by kernel_rfl))
end Go.Proofs.Ytkfnkiejikhglaa.Own
namespace Go.Proofs.Ytkfnkiejikhglaa
theorem trieFinds_holds:Rows.TrieFindsSaid:=
 OpenClaim.holds_of_wide 4 Try.f4 rfl rfl rfl rfl rfl rfl rfl ⟨rfl,rfl,rfl,rfl,rfl⟩ rfl rfl rfl rfl rfl (by kernel_rfl) Try.func4 (by kernel_rfl)
  (of_decide_eq_true (by kernel_rfl)) (by unfold Func.isWrapper;first |(rw[if_pos (by decide+kernel)];kernel_rfl) |(rw[if_neg (by decide+kernel)];exact⟨rfl,rfl⟩))
  (fun os nM H enc _=>Own.lifted os nM H enc)
#print axioms trieFinds_holds
end Go.Proofs.Ytkfnkiejikhglaa
