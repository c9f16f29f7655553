/- A function of the library, told by hand: its contract. -/
import Derived.Test.YtapfhcnigmighaaGreatProg
import Derived.Test.YtapfhcnigmighaaGreatG5
import Derived.WalkKit
import Derived.Lib.Walk
import Derived.Lib.Bytealg
import Derived.Lib.BytesEntry
import Derived.Laws.Externs
import Derived.KernelRfl
set_option linter.unusedVariables false
set_option linter.unusedSimpArgs false
namespace Go.Proofs.YtapfhcnigmighaaGreat.Own.Sbcmp93
open Go Go.Proofs.YtapfhcnigmighaaGreat.GD Go.Proofs
theorem cmpB_eq : ∀ (a b : List UInt8), Lib.compareBytes a b = cmpB a b
 | [], [] => rfl
 | [], _ :: _ => rfl
 | _ :: _, [] => rfl
 | a :: s, b :: t => by simp only [Lib.compareBytes, cmpB, cmpB_eq s t]
theorem run_bytes_rep {P : Program} {ty : TypeId → Option Vk} {w : World} {ok : Nat → Prop} {v : Value} {e : TypeId} {nb : Bool} {els : List D} (h : RepV ty w ok v (.sl e nb els)) (hk : ty e = some ⟨false, [.int .u8]⟩) :
  (Extern.Bytes.bytesOf v).run P w = .ok ⟨(bytesD els).toArray⟩ w := by
 cases h with
 | slnil e => simp [Extern.Bytes.bytesOf, bytesD]; rfl
 | sl e ad c els k cs hk' hsp hc hf hok hcell hrep =>
  rw [hk] at hk'
  cases hk'
  have hl : (els.map D.i).length = els.length := by simp
  have := Lib.run_loadBytesX (P := P) w (els.map D.i) ad .empty (fun j x hj => by
   have hj' : j < els.length := by
    rcases Nat.lt_or_ge j els.length with h | h
    · exact h
    · rw [List.getElem?_eq_none (by simpa using h)] at hj; cases hj
   have hspot : ad.spot = none := hsp (by omega)
   have h1 := hcell j 0 hj' (by simp)
   have h2 := hrep j 0 hj' (by simp)
   have h3 := hf _ (mem_getD hj')
   have e1 : (els.map D.i)[j]? = some (els.getD j .undef).i := by
    simp [List.getElem?_map, zq1, hj']
   rw [e1] at hj
   cases hj
   rw [addr_add ad _ hspot]
   simp only [List.length_cons, List.length_nil, Nat.zero_add, Nat.mul_one, Nat.add_zero] at h1
   rw [h1]
   simp only [Vk.fits, fitsL, Bool.and_true] at h3
   obtain ⟨n, hn⟩ := (show ∃ n, els.getD j .undef = D.int .u8 n from by generalize els.getD j .undef = q at h3; cases q <;> simp [fits] at h3; subst h3; exact ⟨_, rfl⟩)
   rw [hn] at h2 ⊢
   simp only [D.cell] at h2
   generalize cs j 0 = u at h2
   cases h2
   rfl)
  rw [hl] at this
  simp only [Extern.Bytes.bytesOf]
  rw [this]
  congr 2
  show _ ++ _ = _
  simp [Lib.bytesOf, bytesD, ByteArray.empty, ByteArray.emptyWithCapacity, Function.comp_def]
  rfl
set_option maxHeartbeats 1000000 in
set_option maxRecDepth 100000 in
theorem bcmp_sound {ty : TypeId → Option Vk} (hk : ty 5 = some ⟨false, [.int .u8]⟩) : SoundAt Tryz.prog ty 93 ⟨[.p, .p], [.p ⟨false, [.int .i64]⟩]⟩ (bcmpSpec 5) := by
 intro l rs hf w vs blks X hp
 unfold bcmpSpec at hf
 split at hf
 case h_2 => cases hf
 rename_i e1 n1 l1 e2 n2 l2
 split at hf
 case isFalse => cases hf
 rename_i he
 obtain ⟨rfl, rfl⟩ := he
 cases hf
 have hsz := hp.sz
 obtain ⟨v1, v2, rfl⟩ : ∃ v1 v2, vs = #[v1, v2] := by
  rcases vs with ⟨vs⟩
  match vs, hsz with
  | [a, b], _ => exact ⟨a, b, rfl⟩
 have a1 := (hp.args 0 .p rfl).2.2
 have a2 := (hp.args 1 .p rfl).2.2
 simp only [List.getD_cons_zero, List.getD_cons_succ] at a1 a2
 have b1 := run_bytes_rep (P := Tryz.prog) (v := v1) a1 hk
 have b2 := run_bytes_rep (P := Tryz.prog) (v := v2) a2 hk
 have hx : (Extern.BytealgCompare.compare #[v1, v2]).run Tryz.prog w = .ok (.int .i64 (cmpB (bytesD l1) (bytesD l2))) w := by
  show ((do pure (goInt (Extern.BytealgCompare.cmp (← Extern.Bytes.bytesOf v1) (← Extern.Bytes.bytesOf v2)))) : Sem Value).run Tryz.prog w = _
  simp [b1, b2, Lib.cmp_eq, cmpB_eq, goInt]
 have key : Calls Tryz.prog 93 #[v1, v2] w fun e w' => e = .returned (.int .i64 (cmpB (bytesD l1) (bytesD l2))) ∧ w' = w := by
  clear b1 b2 a1 a2 hp
  go_enter Tryz.func93, Tryz.ntmps93
  go_wp2
  rw [run_callFunc_extern Tryz.func137 (by kernel_rfl) (by kernel_rfl) (by kernel_rfl) (e := Extern.BytealgCompare.compare) (by kernel_rfl), hx]
  simp only [Result.andThen]
  rw [Oper.upon_value]
  go_wp2
  go_ret
  exact ⟨rfl, rfl⟩
 refine key.mono ?_
 rintro e w' ⟨rfl, rfl⟩
 exact post_plain hp rfl rfl (.int _ _) rfl rfl rfl (Nat.le_refl _) (fun _ _ _ => rfl)
theorem bcmp_ok_93 {ty : TypeId → Option Vk} (hk : ty 5 = some ⟨false, [.int .u8]⟩) : SoundAt Tryz.prog ty 93 ⟨[.p, .p], [.p ⟨false, [.int .i64]⟩]⟩ (bcmpSpec 5) ∧ BodyOk Tryz.prog ty 93 ⟨[.p, .p], [.p ⟨false, [.int .i64]⟩]⟩ :=
 ⟨bcmp_sound hk, Tryz.f93, Tryz.func93, by kernel_rfl, by kernel_rfl, fun i e hi => by
  rcases i with _ | _ | i <;> simp at hi⟩
end Go.Proofs.YtapfhcnigmighaaGreat.Own.Sbcmp93
