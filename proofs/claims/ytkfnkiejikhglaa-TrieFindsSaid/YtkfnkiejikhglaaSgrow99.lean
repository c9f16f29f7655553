/- A function of the library, told by hand: its contract. -/
import Derived.Test.YtkfnkiejikhglaaProg
import Derived.Test.YtkfnkiejikhglaaG5
import Derived.WalkKit
import Derived.Lib.Walk
import Derived.Lib.SliceRun
import Derived.Lib.JoinLaws
import Derived.Lib.AppendZerosOnto
import Derived.Laws.Externs
import Derived.Laws.NewBlocks
import Derived.KernelRfl
set_option linter.unusedVariables false
set_option linter.unusedSimpArgs false
namespace Go.Proofs.Ytkfnkiejikhglaa.Own.Sgrow99
open Go Go.Proofs.Ytkfnkiejikhglaa.GD Go.Proofs Go.RowKit Go.Lib
set_option maxHeartbeats 4000000 in
set_option maxRecDepth 100000 in
theorem grow_some (i0:TypeInfo) (hi0:Try.prog.info? 69=some i0) (hsz:i0.size=7) (z:Value) (hz:i0.zero=some z) (n:Nat) (hn:0<n) (hby:0<i0.bytes) (hbig:n*i0.bytes≤140737488355328) (w:World):
  Calls Try.prog 99 #[.slice none 0 0,.int .i64 n] w fun e w'=>
   e= .returned (.slice (some ⟨w.heap.size,0,none⟩) 0 (grownCap w n 0 69))∧w'=w.drew.alloc (.cells (Builtin.zeroCells z.cells n++Builtin.zeroCells z.cells (grownCap w n 0 69 - n)) 69):=by
 have mixed:Try.prog.follows .mixedOrders=true:=by kernel_rfl
 have hnm:n≤140737488355328:=Nat.le_trans (Nat.le_mul_of_pos_right _ hby) hbig
 have hrz:∀ ty,(Builtin.append_ #[22,3] ty #[.slice none 0 0,.int .i64 (n:Int)]).run Try.prog w=
   .ok (.slice (some ⟨w.heap.size,0,none⟩) n (grownCap w n 0 69)) (w.drew.alloc (.cells (Builtin.zeroCells z.cells n++Builtin.zeroCells z.cells (grownCap w n 0 69 - n)) 69)):=fun ty=>by
  have h:=Lib.run_append_grow_zeros w 22 3 ty 69 i0 z .i64 .i64 Try.underlying22 Try.underlying3 hi0 hz none 0 0 [] (by simp[Builtin.firstCells]) n hn (by omega) (by omega) (by omega) (by omega) (by rw[Nat.zero_add];exact growslice_fits hn hbig)
  simpa using h
 have hz1: ¬((n:Int)<0):=by omega
 have hz2:(0:Int)<n:=by omega
 have hc: ¬(grownCap w n 0 69=0):=by have:=grownCap_ge w n 0 69;omega
 generalize grownCap w n 0 69=G at*
 generalize z.cells=zc at*
 go_enter Try.func99,Try.ntmps99
 go_wp2_with (at_builtin;refine Lib.wpList_append_run _ rfl _ _ _ _ rfl _ _ rfl rfl _ _ (hrz _) ?_)
 go_ret
 exact⟨rfl,rfl⟩
set_option maxHeartbeats 4000000 in
set_option maxRecDepth 100000 in
theorem grow_none (w:World):Calls Try.prog 99 #[.slice none 0 0,.int .i64 0] w fun e w'=>e= .returned (.slice none 0 0)∧w'=w:=by
 have mixed:Try.prog.follows .mixedOrders=true:=by kernel_rfl
 go_enter Try.func99,Try.ntmps99
 go_wp2
 go_ret
 exact⟨rfl,rfl⟩
set_option maxRecDepth 100000 in
theorem grow_sound {ty:TypeId→Option Vk} {k:Vk} (hk:ty 69=some k) (hK:k.ks.length=7):SoundAt Try.prog ty 99 ⟨[.g 69,.p],[.o 69]⟩ (growSpec 69 72):=by
 intro l0 rs hf w vs blks X hp
 have hinfo:(Try.prog.info? 69).map (fun i=>(i.zero.map (fun z=>z.cells.size),i.size,i.bytes))=some (some 7,7,72):=by kernel_rfl
 obtain⟨i0,hi0,z,hz,hzc,hsz,hby⟩:∃ i0,Try.prog.info? 69=some i0∧∃ z,i0.zero=some z∧z.cells.size=7∧i0.size=7∧i0.bytes=72:=by
  cases e:Try.prog.info? 69 with
  |none=>rw[e]at hinfo;cases hinfo
  |some i=>
   rw[e]at hinfo
   simp only[Option.map_some,zq5,Prod.mk.injEq]at hinfo
   obtain⟨h1,h2,h3⟩:=hinfo
   cases ez:i.zero with
   |none=>rw[ez]at h1;cases h1
   |some z=>rw[ez]at h1;exact⟨i,rfl,z,ez,by simpa using h1,h2,h3⟩
 unfold growSpec at hf
 split at hf
 case h_2=>cases hf
 rename_i e' n
 split at hf
 case isFalse=>cases hf
 rename_i hc
 obtain⟨rfl,hn0,hnb⟩:=hc
 cases hf
 have hsz':=hp.sz
 obtain⟨v1,v2,rfl⟩:∃ v1 v2,vs= #[v1,v2]:=by
  rcases vs with⟨vs⟩
  match vs,hsz' with
  |[a,b],_=>exact⟨a,b,rfl⟩
 obtain⟨nb,els,k',e1,hk',xs,hown,_⟩:=hp.args 0 (.g 69) rfl
 cases e1
 obtain⟨_,hb1,hr2⟩:=hp.args 1 .p rfl
 have hr2:RepV ty w (fun b=>b<w.heap.size∧ ¬X b∧∀ j,blks j≠some b) v2 (.int .i64 n):=hr2
 cases hr2
 have hv1:v1= .slice none 0 0:=by
  rcases hown.2 with⟨_,_,a,h1,h2,_⟩ |⟨h1,_⟩
  ·cases a with
   |none=>exact h1
   |some a=>cases h2
  ·cases h1
 subst hv1
 have okm:∀ {w':World} {v:Value} {blk:Option Nat} {nb':Bool},RowR ty w' (okR [.g 69,.p] blks X w' (fun i=>if i=0 then blk else none)) k v blk [] nb'→w'.tape=w.tape→w'.os=w.os→w'.output=w.output→w.heap.size≤w'.heap.size→(∀ b,b<w.heap.size→w'.heap[b]? =w.heap[b]?)→(∀ g,blk=some g→w.heap.size≤g∧g<w'.heap.size)→
   ∃ rv rb,v=retV rv∧Post ty [.g 69,.p] [.o 69] [.ov 69 nb' []] w #[.slice none 0 0,.int .i64 n] blks X w' rv rb:=fun {w' v blk nb'} hrow ht hos hout hs hfr hblk=>by
  refine⟨[v],fun i=>if i=0 then blk else none,rfl, ?_⟩
  exact {
   len:=rfl
   rlen:=Nat.le_refl _
   res:=fun i m hi=>by
    cases i with
    |zero=>simp at hi;subst hi;exact⟨_,_,_,rfl,hk,hrow⟩
    |succ i=>simp at hi
   back:=rfl
   rblk:=fun i b' hb=>by
    by_cases h0:i=0
    ·simp[h0]at hb
     obtain⟨q1,q2⟩:=hblk b' hb
     exact⟨by simp[h0],q2,fun hx=>by have:=hp.xlt _ hx;omega,.inl q1⟩
    ·simp[h0]at hb
   rinj:=fun i j b' hi hj=>by
    by_cases h1:i=0<;>by_cases h2:j=0<;>simp[h1,h2]at hi hj⊢
   tape:=ht
   os:=hos
   out:=hout
   size:=hs
   frame:=fun b' hb _=>hfr b' hb}
 obtain⟨m,rfl⟩:∃ m:Nat,n=(m:Int):=⟨n.toNat,by omega⟩
 rcases Nat.eq_zero_or_pos m with h0 |h0
 ·subst h0
  refine (grow_none w).mono ?_
  rintro e w' ⟨rfl,rfl⟩
  exact okm ⟨[],⟨by simp,.inl ⟨rfl,rfl,none,rfl,rfl,fun x hx=>by cases hx⟩⟩,fun d hd=>by simp at hd,fun i j hi=>by simp at hi⟩ rfl rfl rfl (Nat.le_refl _) (fun _ _=>rfl) (fun g h=>by cases h)
 ·have hm:m*72≤140737488355328:=by omega
  refine (grow_some i0 hi0 hsz z hz m h0 (by omega) (by rw[hby];exact hm) w).mono ?_
  rintro e w' ⟨rfl,rfl⟩
  have hge:=grownCap_ge w m 0 69
  have hle:=grownCap_le_maxLen w m 0 69 (by unfold maxLen;omega)
  have hdec:decide ((m:Int)=0)=false:=decide_eq_false (by omega)
  rw[hdec]
  generalize grownCap w m 0 69=G at*
  have hnew:(w.drew.alloc (.cells (Builtin.zeroCells z.cells m++Builtin.zeroCells z.cells (G - m)) 69)).heap[w.heap.size]? =some (.cells (Builtin.zeroCells z.cells m++Builtin.zeroCells z.cells (G - m)) 69 (0,0)):=by
   show (w.heap.push _)[w.heap.size]? =_
   simp
  have hsz2:∀ q,(Builtin.zeroCells z.cells q).size=q*7:=fun q=>by simp[Builtin.zeroCells,hzc]
  exact okm (blk:=some w.heap.size) ⟨[],⟨by simp,.inr ⟨rfl,w.heap.size,G,_,69,rfl,rfl,hnew,Nat.zero_le _,hle,by rw[hK,Array.size_append,hsz2,hsz2,←Nat.add_mul];congr 1;omega,by simp⟩⟩,fun d hd=>by simp at hd,fun i j hi=>by simp at hi⟩ rfl rfl rfl (by show w.heap.size≤(w.heap.push _).size;simp) (fun b hb=>Below.heap_alloc w.drew _ b hb) (fun g h=>by cases h;exact⟨Nat.le_refl _,by show w.heap.size<(w.heap.push _).size;simp⟩)
theorem grow_ok_99 {ty:TypeId→Option Vk} (h:ty 69=some ⟨true,[.int .u8,.int .u64,.int .u64,.int .i64,.sl 3,.int .i64,.int .i64]⟩):SoundAt Try.prog ty 99 ⟨[.g 69,.p],[.o 69]⟩ (growSpec 69 72)∧BodyOk Try.prog ty 99 ⟨[.g 69,.p],[.o 69]⟩:=
 ⟨grow_sound h rfl,_,Try.func99,by kernel_rfl,by kernel_rfl,fun i e hi=>by
  match i with
  |0=>simp at hi;subst hi;simp[h]
  |1=>simp at hi
  |i+2=>simp at hi⟩
end Go.Proofs.Ytkfnkiejikhglaa.Own.Sgrow99
