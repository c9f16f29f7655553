/- A value-level interpreter of the translated code, with the proof that it is sound: part 5. -/
import Derived.Test.YtkfnkiejikhglaaG4
set_option linter.unusedVariables false
set_option linter.unusedSimpArgs false
namespace Go.Proofs.Ytkfnkiejikhglaa.GD
section
open Go Go.ChangeShapes Go.RowKit
theorem wh {P:Program} {ty:TypeId→Option Vk} {t:TypeId} {k:Vk} (h:parOk P ty t k=true):
  ksOf P 20 t=some k.ks∧isAggT P t=some k.agg∧P.cellsOf t=k.ks.length∧clo ty k.ks∧P.readableRec t=true∧t<P.types.size:=by
 simp only[parOk,zq3,beq_iff_eq,Nat.blt_eq]at h
 obtain⟨⟨⟨⟨⟨h1,h2⟩,h3⟩,h4⟩,h5⟩,h6⟩:=h
 exact⟨h1,h2,h3,clo_of h4,h5,h6⟩
theorem qX {H:Type} {enc:TypeId×Value→H} {P:Program} {ty:TypeId→Option Vk} {W:World} {base:Nat} (hl:laidOutB P=true) (hty:KsOk P ty):
  ∀ (ts:List TypeId) (ks:List Vk) (vs:List Value) (ds:List (DataW H)) (ps:List MemPlace),parsOk P ty ts ks=true→DataW.TrodAll enc P W 0 (fun _=>true) true ts vs ds ps→
   (∀ (j:Nat) t v,ts[j]? =some t→vs[j]? =some v→Value.okWide P W .any base t v)→
   ∃ dd:List D,fitsV ks dd=true∧vs.length=ks.length∧dd.length=ks.length∧ds.length=ks.length∧(∀ d,d∈dd→WT ty d)∧
    (∀ i,i<ks.length→pureD (dd.getD i .undef)=true∧RepV ty W (fun b=>b<W.heap.size) (vs.getD i undef) (dd.getD i .undef))∧
    ∀ W',Below W.heap.size W W'→DataW.TrodAll enc P W' 0 (fun b=>decide (b<W.heap.size)) true ts vs ds ps
 |[],ks,vs,ds,ps,hp,h,_=>by
  obtain⟨rfl,rfl,rfl⟩:=trodAll_nil h
  cases ks with
  |cons k ks=>simp[parsOk]at hp
  |nil=>exact⟨[],rfl,rfl,rfl,rfl,(fun d hd=>by cases hd),(fun i hi=>by simp at hi),fun W' _=>trodAll_mk0⟩
 |t::ts,ks,vs,ds,ps,hp,h,hok=>by
  obtain⟨v,vs',d,jB,p,q,rfl,rfl,rfl,h1,h2⟩:=trodAll_cons h
  cases ks with
  |nil=>simp[parsOk]at hp
  |cons k ks=>
   simp only[parsOk,zq3]at hp
   obtain⟨k1,k2,k3,k4,k5,k6⟩:=wh hp.1
   obtain⟨dd,r1,r2,r3,r4,r5,r6,r7⟩:=qX hl hty ts ks vs' jB q hp.2 h2 fun j t v a b=>hok (j+1) t v a b
   obtain⟨fuel,hf⟩:=h1
   have zY:k.agg=false→k.ks.length=1:=fun hka=>isAgg_one k1 (by rw[k2,hka])
   have told:=trod_told hty rfl fuel 20 t k.ks _ _ k1 k3 k4 hf
   obtain⟨x,x1,x2,x3,x4⟩:=told_arg k2 zY (hok 0 t v rfl rfl) told
   refine⟨x::dd,by simp[fitsV,x1,r1],by simp[r2],by simp[r3],by simp[r4],fun d hd=> ?_,fun i hi=> ?_,fun W' hb=> ?_⟩
   ·rcases List.mem_cons.1 hd with rfl |hd
    ·exact x3
    ·exact r5 d hd
   ·cases i with
    |zero=>exact⟨x2,x4⟩
    |succ i=>simpa using r6 i (by simpa using hi)
   ·exact trodAll_cons_mk (Below.trod hl k5 k6 ⟨fuel,hf⟩ hb (fun y hy=>DataW.trod_lt fuel _ _ _ hf y hy)) (r7 W' hb)
def sw (ty:TypeId→Option Vk) (tab:FuncId→Option Entry) (g:FuncId) (ks:List Vk):Prop:=
 ∀ dd:List D,fitsV ks dd=true→(∀ d,d∈dd→WT ty d)→∃ k,dcall ty tab k g dd=some [.bool true]
theorem ut {C:Checked} {os:Os} {ty:TypeId→Option Vk} {tab:FuncId→Option Entry} {f:FuncId} {fn:Func} {s:ChangeSpec} {ks:List Vk} {en:Entry} {tb:TypeId}
  (hl:laidOutB C.prog=true) (HP:TabOk C.prog ty tab) (hty:KsOk C.prog ty) (own:ownKnob C.prog.godebug=none) (lO:os.Started) (DH:C.prog.inits.idxOf? f=none) (hfn:C.prog.funcs[f]? =some fn)
  (HQ:parsOk C.prog ty fn.params.toList ks=true) (hres:fn.resultTypes= #[tb]) (hb:C.prog.underlying tb=some .bool) (C3:s.vars=[])
  (Fp:∀ (H:Type) (ds:List (DataW H)),ds.length=ks.length→s.fn H ds={results:=[.lit (.bool true)],args:=ds})
  (hg:tab f=some en) (ham:en.sig.am=List.replicate ks.length .p) (hrm:en.sig.rm=[.p ⟨false,[.bool]⟩]) (law:sw ty tab f ks)
  {H:Type} {enc:TypeId×Value→H}
  (BN:∃ (w:World) (tape:Tape) (i:Input),w.os=os∧(w.forCall tape i).Shaped C.prog∧i.vars=[]∧Input.okWide C.prog (w.forCall tape i) .any w.heap.size f i∧
   s.pre6 enc C.prog fn [] false (w.forCall tape i).memory i.args∧({}:Assume).holds C.prog (lone (Frame.enter C.prog f i.args .normal) [] (w.forCall tape i))):
  ReturnsInHanded {} C os f .any (s.pre6 enc C.prog fn [] false) (s.post enc C.prog fn false true false false):=by
 refine returnsInHanded_of_change_sized own lO DH hfn BN ?_
 intro W base args ds gs HR HS hW _ _ _
 have Mo:=hW
 obtain⟨p,q,hA,hV,rfl,Bl,hnd⟩:=hW
 rw[C3]at hV
 obtain⟨rfl,rfl⟩:=trodVars_none hV
 obtain⟨dd,r1,r2,r3,r4,r5,r6,r7⟩:=qX (base:=base) hl hty fn.params.toList ks args.toList ds p HQ hA (fun j t v a b=>HS j t v (by simpa using a) (by simpa using b))
 obtain⟨k,hk⟩:=law dd r1 r5
 refine (law_calls HP hg (n:=ks.length) ham hrm (vs:=args) (by simpa using r2) r3 (fun i hi=> ?_) hk).mono fun e W' ⟨he,h1,h2,h3,h4,h5⟩=> ?_
 ·have:=r6 i hi
  have e:args.toList.getD i undef=args.getD i undef:=by rw[zq1,Array.getElem?_toList,←zq2]
  rwa [e]at this
 ·subst he
  have KR:Below W.heap.size W W':=⟨h2,h1,h3,h4,h5⟩
  have e1:s.fn H (ds++[])={results:=[.lit (.bool true)],args:=ds}:=by rw[List.append_nil];exact Fp H ds r4
  refine⟨_,rfl,ds,[],p++[],[],p,[],Mo, ?_, ?_, ?_,KR.frame _,fun h=>by cases h⟩
  ·rw[e1,hres]
   exact trodAll_mk1 (shut_bool hb _)
  ·rw[e1]
   exact r7 W' KR
  ·rw[e1,C3]
   rfl
end
section
def xy (P:Program) (ty:TypeId→Option Vk):List (Nat×Vk)→Bool
 |[]=>true
 |(e,k)::l=>(!k.ks.all Sk.data ||(ksOf P 20 e==some k.ks&&isAggT P e==some k.agg&&P.cellsOf e==k.ks.length&&k.ks.all (telling ty)&&Nat.blt 0 k.ks.length))&&xy P ty l
theorem da {α:Type}:∀ {l:List (Nat×α)} {e:Nat} {x:α},l.lookup e=some x→(e,x)∈l
 |[],_,_,h=>by simp at h
 |(a,b)::l,e,x,h=>by
  rw[List.lookup_cons]at h
  split at h
  ·rename_i he
   simp only[beq_iff_eq]at he
   cases h;subst he
   exact List.mem_cons_self ..
  ·exact List.mem_cons_of_mem _ (da h)
theorem qY {P:Program} {ty:TypeId→Option Vk}:∀ {l:List (Nat×Vk)},xy P ty l=true→∀ {e k},(e,k)∈l→
  (!k.ks.all Sk.data ||(ksOf P 20 e==some k.ks&&isAggT P e==some k.agg&&P.cellsOf e==k.ks.length&&k.ks.all (telling ty)&&Nat.blt 0 k.ks.length))=true
 |(a,b)::l,h,e,k,hm=>by
  simp only[xy,zq3]at h
  rcases List.mem_cons.1 hm with h1 |h1
  ·cases h1;exact h.1
  ·exact qY h.2 h1
 |[],_,_,_,hm=>by cases hm
theorem BO {P:Program} {tyL:List (Nat×Vk)} (h:xy P (fun e=>tyL.lookup e) tyL=true):KsOk P (fun e=>tyL.lookup e):=by
 intro e k he hd
 have:=qY h (da he)
 simp only[hd,Bool.not_true,Bool.false_or,zq3,beq_iff_eq,Nat.blt_eq]at this
 obtain⟨⟨⟨⟨h1,h2⟩,h3⟩,h4⟩,h5⟩:=this
 exact⟨⟨20,h1⟩,h2,h3,clo_of h4,h5⟩
theorem qZ {P:Program}:∀ {l:List (Nat×Vk)},wZ P l=true→∀ {e k},(e,k)∈l→szOk P e k=true∧0<k.ks.length
 |(a,b)::l,h,e,k,hm=>by
  simp only[wZ,zq3,Nat.blt_eq]at h
  rcases List.mem_cons.1 hm with h1 |h1
  ·cases h1;exact h.1
  ·exact qZ h.2 h1
 |[],_,_,_,hm=>by cases hm
theorem fS {P:Program} {ty:TypeId→Option Vk}:∀ {l:List (Nat×Entry)},cg P ty l=true→∀ {g f},(g,Entry.code f)∈l→chkFun P ty g f=true
 |(a,.code b)::l,h,g,f,hm=>by
  simp only[cg,zq3]at h
  rcases List.mem_cons.1 hm with h1 |h1
  ·cases h1;exact h.1
  ·exact fS h.2 h1
 |(a,.spec s b)::l,h,g,f,hm=>by
  simp only[cg]at h
  rcases List.mem_cons.1 hm with h1 |h1
  ·cases h1
  ·exact fS h h1
 |(a,.wr f' e n)::l,h,g,f,hm=>by
  simp only[cg,zq3]at h
  rcases List.mem_cons.1 hm with h1 |h1
  ·cases h1
  ·exact fS h.2 h1
 |(a,.rf f')::l,h,g,f,hm=>by
  simp only[cg,zq3]at h
  rcases List.mem_cons.1 hm with h1 |h1
  ·cases h1
  ·exact fS h.2 h1
 |[],_,_,_,hm=>by cases hm
theorem eZ {P:Program} {ty:TypeId→Option Vk}:∀ {l:List (Nat×Entry)},cg P ty l=true→∀ {g f e n},(g,Entry.wr f e n)∈l→chkFunW P ty g f e n=true
 |(a,.code b)::l,h,g,f,e,n,hm=>by
  simp only[cg,zq3]at h
  rcases List.mem_cons.1 hm with h1 |h1
  ·cases h1
  ·exact eZ h.2 h1
 |(a,.spec s b)::l,h,g,f,e,n,hm=>by
  simp only[cg]at h
  rcases List.mem_cons.1 hm with h1 |h1
  ·cases h1
  ·exact eZ h h1
 |(a,.wr f' e' n')::l,h,g,f,e,n,hm=>by
  simp only[cg,zq3]at h
  rcases List.mem_cons.1 hm with h1 |h1
  ·cases h1;exact h.1
  ·exact eZ h.2 h1
 |(a,.rf f')::l,h,g,f,e,n,hm=>by
  simp only[cg,zq3]at h
  rcases List.mem_cons.1 hm with h1 |h1
  ·cases h1
  ·exact eZ h.2 h1
 |[],_,_,_,_,_,hm=>by cases hm
theorem e8 {P:Program} {ty:TypeId→Option Vk}:∀ {l:List (Nat×Entry)},cg P ty l=true→∀ {g f},(g,Entry.rf f)∈l→chkFunRf P ty g f=true
 |(a,.code b)::l,h,g,f,hm=>by
  simp only[cg,zq3]at h
  rcases List.mem_cons.1 hm with h1 |h1
  ·cases h1
  ·exact e8 h.2 h1
 |(a,.spec s b)::l,h,g,f,hm=>by
  simp only[cg]at h
  rcases List.mem_cons.1 hm with h1 |h1
  ·cases h1
  ·exact e8 h h1
 |(a,.wr f' e' n')::l,h,g,f,hm=>by
  simp only[cg,zq3]at h
  rcases List.mem_cons.1 hm with h1 |h1
  ·cases h1
  ·exact e8 h.2 h1
 |(a,.rf f')::l,h,g,f,hm=>by
  simp only[cg,zq3]at h
  rcases List.mem_cons.1 hm with h1 |h1
  ·cases h1;exact h.1
  ·exact e8 h.2 h1
 |[],_,_,_,hm=>by cases hm
end
section
def BodyOk (P:Program) (ty:TypeId→Option Vk) (g:FuncId) (s:zy):Prop:=
 ∃ fn,P.funcs[g]? =some fn∧(fn.name== "runtime.NumGoroutine")=false∧fn.body.isNone=false∧∀ (i:Nat) (e:TypeId),s.am[i]? =some (.g e)→(ty e).isSome=true
def kg (P:Program) (ty:TypeId→Option Vk):List (Nat×Entry)→Prop
 |[]=>True
 |(_,.code _)::l=>kg P ty l
 |(_,.wr _ _ _)::l=>kg P ty l
 |(_,.rf _)::l=>kg P ty l
 |(g,.spec s f)::l=>(SoundAt P ty g s f∧BodyOk P ty g s)∧kg P ty l
theorem dT {P:Program} {ty:TypeId→Option Vk}:∀ {l:List (Nat×Entry)},kg P ty l→∀ {g s f},(g,Entry.spec s f)∈l→SoundAt P ty g s f∧BodyOk P ty g s
 |(a,.code b)::l,h,g,s,f,hm=>by
  rcases List.mem_cons.1 hm with h1 |h1
  ·cases h1
  ·exact dT (l:=l) h h1
 |(a,.rf b)::l,h,g,s,f,hm=>by
  rcases List.mem_cons.1 hm with h1 |h1
  ·cases h1
  ·exact dT (l:=l) h h1
 |(a,.wr b e n)::l,h,g,s,f,hm=>by
  rcases List.mem_cons.1 hm with h1 |h1
  ·cases h1
  ·exact dT (l:=l) h h1
 |(a,.spec s' b)::l,h,g,s,f,hm=>by
  rcases List.mem_cons.1 hm with h1 |h1
  ·cases h1;exact h.1
  ·exact dT h.2 h1
 |[],_,_,_,_,hm=>by cases hm
theorem wi {P:Program} {tyL:List (Nat×Vk)} {tabL:List (Nat×Entry)} (h1:wZ P tyL=true) (h2:P.follows .mixedOrders=true) (h3:cg P (fun e=>tyL.lookup e) tabL=true)
  (h4:kg P (fun e=>tyL.lookup e) tabL):TabOk P (fun e=>tyL.lookup e) (fun g=>tabL.lookup g) where
 T:=fun e k he=>qZ h1 (da he)
 mx:=h2
 code:=fun g f hg=>fS h3 (da hg)
 wr:=fun g f e n hg=>eZ h3 (da hg)
 rf:=fun g f hg=>e8 h3 (da hg)
 spec:=fun g s sf hg=>(dT h4 (da hg)).1
 body:=fun g s sf hg=>(dT h4 (da hg)).2
def dR (ty:TypeId→Option Vk) (w:World) (ok:Nat→Prop) (K:Nat) (els:List D) (vs:List Value):Prop:=
 vs.length=els.length*K∧∀ i j,i<els.length→j<K→RepV ty w ok (vs.getD (i*K+j) undef) ((els.getD i .undef).cell j)
section
variable {ty:TypeId→Option Vk} {w:World} {ok:Nat→Prop} {K:Nat}
theorem dR.append {a b:List D} {x y:List Value} (h1:dR ty w ok K a x) (h2:dR ty w ok K b y):dR ty w ok K (a++b) (x++y):=by
 refine⟨by rw[List.length_append,List.length_append,h1.1,h2.1,Nat.add_mul],fun i j hi hj=> ?_⟩
 rw[List.length_append]at hi
 by_cases h:i<a.length
 ·have:=h1.2 i j h hj
  have hx:i*K+j<x.length:=by rw[h1.1];exact idx_lt h hj (Nat.le_refl _)
  rw[zq1,List.getElem?_append_left hx,←zq1]
  rw[zq1 (l:=a++b),List.getElem?_append_left h,←zq1]
  exact this
 ·have h3:a.length≤i:=Nat.le_of_not_lt h
  have:=h2.2 (i - a.length) j (by omega) hj
  have hx:x.length≤i*K+j:=by
   rw[h1.1]
   have:a.length*K≤i*K:=Nat.mul_le_mul_right _ h3
   omega
  have e:i*K+j - x.length=(i - a.length)*K+j:=by
   rw[h1.1,Nat.sub_mul]
   have:a.length*K≤i*K:=Nat.mul_le_mul_right _ h3
   omega
  rw[zq1,List.getElem?_append_right hx,e,←zq1]
  rw[zq1 (l:=a++b),List.getElem?_append_right h3,←zq1]
  exact this
theorem dR.take {a:List D} {x:List Value} (h:dR ty w ok K a x) (n:Nat) (hn:n≤a.length):dR ty w ok K (a.take n) (x.take (n*K)):=by
 have hm:n*K≤a.length*K:=Nat.mul_le_mul_right _ hn
 have hl:(a.take n).length=n:=by simp;omega
 refine⟨by rw[hl,List.length_take,h.1];omega,fun i j hi hj=> ?_⟩
 rw[hl]at hi
 have:=h.2 i j (by omega) hj
 have hlt:i*K+j<n*K:=idx_lt hi hj (Nat.le_refl _)
 rw[zq1,List.getElem?_take_of_lt hlt,←zq1,zq1 (l:=a.take n),List.getElem?_take_of_lt hi,←zq1]
 exact this
theorem dR.drop {a:List D} {x:List Value} (h:dR ty w ok K a x) (n:Nat) (hn:n≤a.length):dR ty w ok K (a.drop n) (x.drop (n*K)):=by
 have hm:n*K≤a.length*K:=Nat.mul_le_mul_right _ hn
 have hl:(a.drop n).length=a.length - n:=by simp
 refine⟨by rw[hl,List.length_drop,h.1,Nat.sub_mul],fun i j hi hj=> ?_⟩
 rw[hl]at hi
 have:=h.2 (n+i) j (by omega) hj
 rw[zq1,List.getElem?_drop,show n*K+(i*K+j)=(n+i)*K+j by rw[Nat.add_mul];omega,←zq1,zq1 (l:=a.drop n),List.getElem?_drop,←zq1]
 exact this
theorem dR.one {k:Vk} {a:List D} {x:List Value} (h:dR ty w ok k.ks.length a x) (hf:∀ d,d∈a→k.fits d=true):∀ u,u∈x→u.oneCell'=true:=by
 intro u hu
 obtain⟨p,hp,rfl⟩:=List.getElem_of_mem hu
 have vG:=hp
 rw[h.1]at vG
 have hpos:0<k.ks.length:=by
  rcases Nat.eq_zero_or_pos k.ks.length with h0 |h0
  ·rw[h0]at vG;simp at vG
  ·exact h0
 have hi:p/k.ks.length<a.length:=Nat.div_lt_of_lt_mul (by rw[Nat.mul_comm];exact vG)
 have hj:=Nat.mod_lt p hpos
 have:=h.2 _ _ hi hj
 rw[Nat.mul_comm (p/k.ks.length),Nat.div_add_mod,zq1,zq4 hp]at this
 exact jD (C:=⟨ty,fun _=>False,w,fun _=>False,(0,undef)⟩) this (Vk.bI (hf _ (mem_getD hi)) _ k.ks[p % k.ks.length] (zq4 hj))
theorem dR.mono {w':World} {qj:Nat→Prop} {a:List D} {x:List Value} (h:dR ty w ok K a x) (hok:∀ b,ok b→qj b) (hs:Same ok w w'):dR ty w' qj K a x:=
 ⟨h.1,fun i j hi hj=>(h.2 i j hi hj).mono hok hs⟩
end
end
section
structure BP (E E':Env):Prop where
 ty:E'.ty=E.ty
 sig:E'.sig=E.sig
 wty:E'.wty=E.wty
 yld:(E.yld=none∧E'.yld=none)∨∃ e f f',E.yld=some (e,f)∧E'.yld=some (e,f')∧∀ l r,f l=some r→f' l=some r
 call:∀ g l r,E.call g l=some r→E'.call g l=some r
theorem BP.refl (E:Env):BP E E:=⟨rfl,rfl,rfl,by
 cases h:E.yld with
 |none=>exact .inl ⟨rfl,rfl⟩
 |some p=>exact .inr ⟨p.1,p.2,p.2,rfl,rfl,fun _ _ x=>x⟩,fun _ _ _ x=>x⟩
theorem BP.on {E E':Env} (h:BP E E') {e:TypeId} {f f':List D→Option (List D)} (hf:∀ l r,f l=some r→f' l=some r):BP {E with yld:=some (e,f)} {E' with yld:=some (e,f')}:=
 ⟨h.ty,h.sig,h.wty,.inr ⟨e,f,f',rfl,rfl,hf⟩,h.call⟩
section
variable {E E':Env} (h:BP E E')
include h
theorem xz:mD E'=mD E:=by funext e off k;simp only[mD,h.ty]
theorem AC:lv E'=lv E:=by funext e lo n k;simp only[lv,h.ty]
theorem q0:dQ E'=dQ E:=by funext os e d;cases d<;>simp only[dQ,h.ty]
theorem DI (sg:zy):qi E' sg=qi E sg:=by
 have e1:gU E'=gU E:=by funext r;cases r<;>simp only[gU,h.ty]
 have e2:nf E'=nf E:=by funext r;cases r<;>simp only[nf,h.ty]
 simp only[qi,e1,e2]
theorem yY {op:tE} {l:List D} {os:Vw} {p:D×Wr} (he:bL KS E op l os=some p):bL KS E' op l os=some p:=by
 cases op with
 |call ss=>
  simp only[bL]at he⊢
  unfold ng at he⊢
  split at he
  ·rename_i g caps args
   rw[h.sig]
   split at he
   ·cases he
   ·rename_i sg KT
    try simp only[KT]
    split at he
    ·cases he
    ·rename_i l1 hl1
     try simp only[hl1]
     split at he
     ·rename_i hb
      try simp only[hb]
      simp only[Option.bind_eq_some_iff]at he⊢
      obtain⟨rs,h1,h2⟩:=he
      exact⟨rs,h.call _ _ _ h1,by rw[DI h];exact h2⟩
     ·cases he
  ·cases he
 |iX s r0=>
  simp only[bL]at he⊢
  unfold jx at he⊢
  split at he
  ·rename_i g o a x
   rw[h.wty]
   split at he
   ·rename_i e c g' o' a' hw1 hw2 KU
    try simp only[hw1,hw2,KU]
    split at he
    ·rename_i hc
     try simp only[hc]
     split at he
     ·rename_i nb els ws hri
      try simp only[hri]
      simp only[Option.bind_eq_some_iff]at he⊢
      obtain⟨rs,h1,h2⟩:=he
      exact⟨rs,h.call _ _ _ h1,h2⟩
     ·cases he
    ·cases he
   ·cases he
  ·cases he
 |yld s r0=>
  simp only[bL]at he⊢
  unfold tK at he⊢
  split at he
  ·rename_i o x
   rcases h.yld with⟨y1,y2⟩ |⟨e,f,f',y1,y2,y3⟩
   ·rw[y1]at he;simp at he
   ·rw[y1]at he
    rw[y2]
    split at he
    ·rename_i e' f0 c hw1 hw2
     cases hw1
     try simp only[hw2]
     split at he
     ·rename_i hc
      try simp only[hc]
      split at he
      ·rename_i nb els ws hri
       try simp only[hri]
       simp only[Option.bind_eq_some_iff]at he⊢
       obtain⟨rs,h1,h2⟩:=he
       exact⟨rs,y3 _ _ h1,h2⟩
      ·cases he
     ·cases he
    ·cases he
  ·cases he
 |load k=>simp only[bL,fq,xz h,AC h]at he⊢;exact he
 |store k=>simp only[bL,jv,d9,xz h,h.ty]at he⊢;exact he
 |append s e b=>simp only[bL,gt,q0 h]at he⊢;exact he
 |copy e=>simp only[bL,qF,q0 h]at he⊢;exact he
 |bp s e=>simp only[bL,h.ty]at he⊢;exact he
 |kT e n=>simp only[bL,j_,h.ty]at he⊢;exact he
 |bytes e=>simp only[bL,h.ty]at he⊢;exact he
 |ox e=>simp only[bL,mG,h.ty]at he⊢;exact he
 |_=>exact he
theorem uu {o:DOper} {st:St} {p:St×Lg} (he:vk E o st=some p):vk E' o st=some p:=by
 unfold vk zK at he⊢
 simp only at he⊢
 split at he
 ·rename_i hs
  try simp only[hs]
  rw[eY]at he⊢
  simp only[aR,Option.bind_eq_some_iff]at he⊢
  obtain⟨q,h1,h2⟩:=he
  exact⟨q,yY h h1,h2⟩
 ·cases he
theorem wj {o:DOper} {st:St} {p:St×Lg} (he:stepS E o st=some p):stepS E' o st=some p:=by
 unfold stepS gu at he⊢
 split at he
 ·rename_i hg
  try simp only[hg]
  exact uu h he
 ·rename_i g rL hg
  try simp only[hg]
  split at he
  ·rename_i b hb
   try simp only[hb]
   cases rL<;>cases b<;>simp only at he⊢ <;>first |exact uu h he |exact he
  ·rename_i hb
   try simp only[hb]
   exact he
  ·cases he
theorem q_:∀ {ds:List DOper} {st:St} {p:St×List Lg},opsS E ds st=some p→opsS E' ds st=some p
 |[],st,p,he=>he
 |o::ds,st,p,he=>by
  unfold opsS opsK at he⊢
  rw[fJ]at he⊢
  simp only[Option.bind_eq_some_iff]at he⊢
  obtain⟨q,h1,h2⟩:=he
  refine⟨q,wj h h1, ?_⟩
  rw[opsK_nat]at h2⊢
  simp only[Option.bind_eq_some_iff]at h2⊢
  obtain⟨q2,h3,h4⟩:=h2
  exact⟨q2,q_ h3,h4⟩
theorem cy {R:Type} {k k':Nat} (hk:k≤k'):∀ (c:DCode) (st:St) (K K':Ex→St→Option R) (r:R),(∀ ex st r,K ex st=some r→K' ex st=some r)→codeK E k c st K=some r→codeK E' k' c st K'=some r:=by
 intro c
 induction c with
 |skip=>intro st K K' r hK he;exact hK _ _ _ he
 |exit id=>intro st K K' r hK he;exact hK _ _ _ he
 |ret=>intro st K K' r hK he;exact hK _ _ _ he
 |bad=>intro st K K' r hK he;cases he
 |region draw ops=>
  intro st K K' r hK he
  unfold codeK at he⊢
  rw[opsK_nat]at he⊢
  simp only[Option.bind_eq_some_iff]at he⊢
  obtain⟨q,h1,h2⟩:=he
  refine⟨q,q_ h h1, ?_⟩
  cases draw with
  |false=>exact hK _ _ _ h2
  |true=>
   simp only at h2⊢
   split at h2
   ·rename_i hd;try simp only[hd]
    exact hK _ _ _ h2
   ·cases h2
 |seq a b DJ DK=>
  intro st K K' r hK he
  unfold codeK at he⊢
  refine DJ st _ _ r ?_ he
  intro ex st r he
  cases ex with
  |norm=>exact DK _ _ _ _ hK he
  |exit id=>exact hK _ _ _ he
  |ret=>exact hK _ _ _ he
 |cond c a b DJ DK=>
  intro st K K' r hK he
  unfold codeK at he⊢
  split at he
  ·rename_i t ht
   try simp only[ht]
   cases t with
   |true=>exact DJ _ _ _ _ hK he
   |false=>exact DK _ _ _ _ hK he
  ·cases he
 |block id c ih=>
  intro st K K' r hK he
  unfold codeK at he⊢
  refine ih st _ _ r ?_ he
  intro ex st r he
  cases ex with
  |norm=>exact hK _ _ _ he
  |ret=>exact hK _ _ _ he
  |exit id'=>
   simp only at he⊢
   split at he
   ·rename_i hd;try simp only[hd]
    exact hK _ _ _ he
   ·rename_i hd;try simp only[hd]
    exact hK _ _ _ he
 |loop sh c ih=>
  intro st K K' r hK he
  unfold codeK at he⊢
  split at he
  ·rename_i vs hvs
   try simp only[hvs]
   clear hvs
   revert he
   suffices key:∀ (n n':Nat),n≤n'→∀ vs r,iter n (fun vs again=>codeK E k c (unpack sh st vs) fun ex st'=>match ex with
     | .norm=>match pack sh st' with |some vs'=>again vs' |none=>none
     |ex=>K ex st') vs=some r→iter n' (fun vs again=>codeK E' k' c (unpack sh st vs) fun ex st'=>match ex with
     | .norm=>match pack sh st' with |some vs'=>again vs' |none=>none
     |ex=>K' ex st') vs=some r from key k k' hk vs r
   intro n
   induction n with
   |zero=>intro n' _ vs r he;cases he
   |succ n Mp=>
    intro n' hn vs r he
    obtain⟨m,rfl⟩:∃ m,n'=m+1:=⟨n' - 1,by omega⟩
    unfold iter at he⊢
    refine ih _ _ _ r ?_ he
    intro ex st' r' he
    cases ex with
    |norm=>
     simp only at he⊢
     split at he
     ·rename_i vs' hv
      exact Mp m (by omega) vs' r' he
     ·cases he
    |exit id=>exact hK _ _ _ he
    |ret=>exact hK _ _ _ he
  ·cases he
theorem uv {k k':Nat} (hk:k≤k') {b:RBody} {e:TypeId} {l r:List D} (he:dround b e E k l=some r):dround b e E' k' l=some r:=by
 unfold dround at he⊢
 split at he
 ·rename_i x e' nb els
  split at he
  ·rename_i hc
   try simp only[hc]
   unfold droundK at he⊢
   refine cy h hk _ _ _ _ _ ?_ he
   intro ex st r he
   cases ex with
   |norm=>
    refine cy h hk _ _ _ _ _ ?_ he
    intro ex st r he
    cases ex<;>exact he
   |_=>exact he
  ·cases he
 ·cases he
theorem wk {k k':Nat} (hk:k≤k') {f:DFun} {e:TypeId} {caps:List D} {nb:Bool} {els r:List D} (he:diter f e E k caps nb els=some r):diter f e E' k' caps nb els=some r:=by
 unfold diter at he⊢
 split at he
 ·rename_i hc
  try simp only[hc]
  refine cy h hk _ _ _ _ _ ?_ he
  intro ex st r he
  cases ex<;>exact he
 ·cases he
theorem yZ {k k':Nat} (hk:k≤k') {f:RfFun} {st:St} {r:List D} (he:rfGo f E k st=some r):rfGo f E' k' st=some r:=by
 unfold rfGo at he⊢
 split at he
 case h_2=>cases he
 rename_i g caps oid h1 h2
 try simp only[h1,h2]
 split at he
 case h_2=>cases he
 rename_i c h3 h4 h5
 try simp only[h3,h4,h5]
 split at he
 case h_2=>cases he
 rename_i nb els ws h6
 try simp only[h6]
 split at he
 case h_2=>cases he
 rename_i e' nb' els' h7
 have h8:=wk (h.on (e:=f.e) (f:=dround f.bd f.e E k) (f':=dround f.bd f.e E' k') (fun l r hl=>uv h hk hl)) hk h7
 simp only[h8]
 refine cy h hk _ _ _ _ _ ?_ he
 intro ex st r he
 exact he
theorem pe {k k':Nat} (hk:k≤k') {f:RfFun}:∀ (ds:List DCode) {st:St} {r:List D},rfPre f E k ds st=some r→rfPre f E' k' ds st=some r
 |[],st,r,he=>by
  unfold rfPre at he⊢
  refine cy h hk _ _ _ _ _ ?_ he
  intro ex st r he
  cases ex with
  |norm=>exact yZ h hk he
  |_=>exact he
 |d::ds,st,r,he=>by
  unfold rfPre at he⊢
  refine cy h hk _ _ _ _ _ ?_ he
  intro ex st r he
  cases ex with
  |norm=>exact pe hk ds he
  |_=>exact he
theorem uw {k k':Nat} (hk:k≤k') {f:RfFun} {l r:List D} (he:drf f E k l=some r):drf f E' k' l=some r:=by
 unfold drf at he⊢
 split at he
 ·rename_i st hs
  try simp only[hs]
  exact pe h hk _ he
 ·cases he
theorem ny {k k':Nat} (hk:k≤k') {f:DFun} {g:FuncId} {e:TypeId} {n:Nat} {l r:List D} (he:dbodyW f g e n E k l=some r):dbodyW f g e n E' k' l=some r:=by
 unfold dbodyW at he⊢
 split at he
 ·rename_i st hst
  try simp only[hst]
  refine cy h hk _ _ _ _ _ ?_ he
  intro ex st r he
  cases ex<;>exact he
 ·cases he
theorem lf {k k':Nat} (hk:k≤k') {f:DFun} {l r:List D} (he:dbody f E k l=some r):dbody f E' k' l=some r:=by
 unfold dbody at he⊢
 split at he
 ·refine cy h hk _ _ _ _ _ ?_ he
  intro ex st r he
  cases ex<;>exact he
 ·cases he
end
section
variable {ty:TypeId→Option Vk} {tab:FuncId→Option Entry}
theorem fK {C C':FuncId→List D→Option (List D)} (h:∀ g l r,C g l=some r→C' g l=some r):BP (envOf ty tab C) (envOf ty tab C'):=⟨rfl,rfl,rfl,.inl ⟨rfl,rfl⟩,h⟩
theorem cz:∀ {k k':Nat},k≤k'→∀ {g:FuncId} {l r:List D},dcall ty tab k g l=some r→dcall ty tab k' g l=some r
 |0,_,_,g,l,r,he=>by cases he
 |k+1,k',hk,g,l,r,he=>by
  obtain⟨m,rfl⟩:∃ m,k'=m+1:=⟨k' - 1,by omega⟩
  unfold dcall at he⊢
  split at he
  ·exact lf (fK fun g l r h=>cz (by omega) h) (by omega) he
  ·exact he
  ·exact ny (fK fun g l r h=>cz (by omega) h) (by omega) he
  ·exact uw (fK fun g l r h=>cz (by omega) h) (by omega) he
  ·cases he
def Ev (ty:TypeId→Option Vk) (tab:FuncId→Option Entry) (g:FuncId) (l r:List D):Prop:=∃ k,dcall ty tab k g l=some r
theorem Ev.of {g:FuncId} {l r:List D} {f:DFun} (hg:tab g=some (.code f)) (C:FuncId→List D→Option (List D)) (k:Nat) (hC:∀ g l r,C g l=some r→∃ k,∀ k',k≤k'→dcall ty tab k' g l=some r)
  (hfin:∃ K,∀ g l r,C g l=some r→dcall ty tab K g l=some r) (he:dbody f (envOf ty tab C) k l=some r):Ev ty tab g l r:=by
 obtain⟨K,hK⟩:=hfin
 refine⟨max K k+1, ?_⟩
 unfold dcall
 rw[hg]
 exact lf (fK fun g l r h=>cz (by omega) (hK g l r h)) (by omega) he
end
end
section
structure pg (E:Env) (F:Nat→Env):Prop where
 ty:∀ n,(F n).ty=E.ty
 sig:∀ n,(F n).sig=E.sig
 wty:∀ n,(F n).wty=E.wty
 yld:(E.yld=none∧∀ n,(F n).yld=none)∨∃ (e:TypeId) (f:List D→Option (List D)) (f':Nat→List D→Option (List D)),E.yld=some (e,f)∧(∀ n,(F n).yld=some (e,f' n))∧∀ l r,f l=some r→∃ N,∀ n,N≤n→f' n l=some r
 call:∀ g l r,E.call g l=some r→∃ N,∀ n,N≤n→(F n).call g l=some r
theorem ra {R:Type} {G:List D→(List D→Option R)→Option R} (hG:∀ (a a':List D→Option R),(∀ vs r,a vs=some r→a' vs=some r)→∀ vs r,G vs a=some r→G vs a'=some r):
  ∀ {m m':Nat},m≤m'→∀ {vs:List D} {r:R},iter m G vs=some r→iter m' G vs=some r
 |0,_,_,_,_,he=>by cases he
 |m+1,m',hm,vs,r,he=>by
  obtain⟨n,rfl⟩:∃ n,m'=n+1:=⟨m' - 1,by omega⟩
  unfold iter at he⊢
  exact hG _ _ (fun vs r=>ra hG (by omega)) vs r he
section
variable {E:Env} {F:Nat→Env} (h:pg E F)
include h
theorem ux (n:Nat):mD (F n)=mD E:=by funext e off k;simp only[mD,h.ty]
theorem y0 (m:Nat):lv (F m)=lv E:=by funext e lo n k;simp only[lv,h.ty]
theorem ph (n:Nat):dQ (F n)=dQ E:=by funext os e d;cases d<;>simp only[dQ,h.ty]
theorem BQ (n:Nat) (sg:zy):qi (F n) sg=qi E sg:=by
 have e1:gU (F n)=gU E:=by funext r;cases r<;>simp only[gU,h.ty]
 have e2:nf (F n)=nf E:=by funext r;cases r<;>simp only[nf,h.ty]
 simp only[qi,e1,e2]
theorem AD {op:tE} {l:List D} {os:Vw} {p:D×Wr} (he:bL KS E op l os=some p):∃ N,∀ n,N≤n→bL KS (F n) op l os=some p:=by
 cases op with
 |call ss=>
  simp only[bL]at he⊢
  unfold ng at he⊢
  split at he
  ·rename_i g caps args
   simp only[h.sig]
   split at he
   ·cases he
   ·rename_i sg KT
    split at he
    ·cases he
    ·rename_i l1 hl1
     split at he
     ·rename_i hb
      simp only[Option.bind_eq_some_iff]at he
      obtain⟨rs,h1,h2⟩:=he
      obtain⟨N,hN⟩:=h.call _ _ _ h1
      refine⟨N,fun n hn=> ?_⟩
      simp only[hN n hn,Option.bind_some,BQ h]
      exact h2
     ·cases he
  ·cases he
 |iX s r0=>
  simp only[bL]at he⊢
  unfold jx at he⊢
  split at he
  ·rename_i g o a x
   simp only[h.wty]
   split at he
   ·rename_i e c g' o' a' hw1 hw2 KU
    split at he
    ·rename_i hc
     split at he
     ·rename_i nb els ws hri
      simp only[Option.bind_eq_some_iff]at he
      obtain⟨rs,h1,h2⟩:=he
      obtain⟨N,hN⟩:=h.call _ _ _ h1
      refine⟨N,fun n hn=> ?_⟩
      simp only[hN n hn,Option.bind_some]
      exact h2
     ·cases he
    ·cases he
   ·cases he
  ·cases he
 |yld s r0=>
  simp only[bL]at he⊢
  unfold tK at he⊢
  split at he
  ·rename_i o x
   rcases h.yld with⟨y1,y2⟩ |⟨e,f,f',y1,y2,y3⟩
   ·rw[y1]at he;simp at he
   ·rw[y1]at he
    split at he
    ·rename_i e' f0 c hw1 hw2
     cases hw1
     split at he
     ·rename_i hc
      split at he
      ·rename_i nb els ws hri
       simp only[Option.bind_eq_some_iff]at he
       obtain⟨rs,h1,h2⟩:=he
       obtain⟨N,hN⟩:=y3 _ _ h1
       refine⟨N,fun n hn=> ?_⟩
       simp only[y2,hw2,hc,hri,hN n hn,Option.bind_some]
       exact h2
      ·cases he
     ·cases he
    ·cases he
  ·cases he
 |load k=>exact⟨0,fun n _=>by simp only[bL,fq,ux h,y0 h]at he⊢;exact he⟩
 |store k=>exact⟨0,fun n _=>by simp only[bL,jv,d9,ux h,h.ty]at he⊢;exact he⟩
 |append s e b=>exact⟨0,fun n _=>by simp only[bL,gt,ph h]at he⊢;exact he⟩
 |copy e=>exact⟨0,fun n _=>by simp only[bL,qF,ph h]at he⊢;exact he⟩
 |bp s e=>exact⟨0,fun n _=>by simp only[bL,h.ty]at he⊢;exact he⟩
 |kT e q=>exact⟨0,fun n _=>by simp only[bL,j_,h.ty]at he⊢;exact he⟩
 |bytes e=>exact⟨0,fun n _=>by simp only[bL,h.ty]at he⊢;exact he⟩
 |ox e=>exact⟨0,fun n _=>by simp only[bL,mG,h.ty]at he⊢;exact he⟩
 |_=>exact⟨0,fun n _=>he⟩
theorem xA {o:DOper} {st:St} {p:St×Lg} (he:vk E o st=some p):∃ N,∀ n,N≤n→vk (F n) o st=some p:=by
 unfold vk zK at he⊢
 simp only at he⊢
 split at he
 ·rename_i hs
  rw[eY]at he
  simp only[aR,Option.bind_eq_some_iff]at he
  obtain⟨q,h1,h2⟩:=he
  obtain⟨N,hN⟩:=AD h h1
  refine⟨N,fun n hn=> ?_⟩
  rw[eY]
  simp only[aR,Option.bind_eq_some_iff]
  exact⟨q,hN n hn,h2⟩
 ·cases he
theorem y4 {o:DOper} {st:St} {p:St×Lg} (he:stepS E o st=some p):∃ N,∀ n,N≤n→stepS (F n) o st=some p:=by
 unfold stepS gu at he⊢
 split at he
 ·rename_i hg
  exact xA h he
 ·rename_i g rL hg
  split at he
  ·rename_i b hb
   cases rL<;>cases b<;>simp only at he⊢ <;>first |exact xA h he |exact⟨0,fun _ _=>he⟩
  ·exact⟨0,fun _ _=>he⟩
  ·cases he
theorem uy:∀ {ds:List DOper} {st:St} {p:St×List Lg},opsS E ds st=some p→∃ N,∀ n,N≤n→opsS (F n) ds st=some p
 |[],st,p,he=>⟨0,fun _ _=>he⟩
 |o::ds,st,p,he=>by
  unfold opsS opsK at he
  rw[fJ]at he
  simp only[Option.bind_eq_some_iff]at he
  obtain⟨q,h1,h2⟩:=he
  rw[opsK_nat]at h2
  simp only[Option.bind_eq_some_iff]at h2
  obtain⟨q2,h3,h4⟩:=h2
  obtain⟨N1,g1⟩:=y4 h h1
  obtain⟨N2,g2⟩:=uy h3
  refine⟨max N1 N2,fun n hn=> ?_⟩
  unfold opsS opsK
  rw[fJ]
  simp only[Option.bind_eq_some_iff]
  refine⟨q,g1 n (by omega), ?_⟩
  rw[opsK_nat]
  simp only[Option.bind_eq_some_iff]
  exact⟨q2,g2 n (by omega),h4⟩
theorem dU {R:Type} {k:Nat}:∀ (c:DCode) (st:St) (K:Ex→St→Option R) (K':Nat→Ex→St→Option R) (r:R),(∀ ex st r,K ex st=some r→∃ N,∀ n,N≤n→K' n ex st=some r)→codeK E k c st K=some r→
  ∃ N,∀ n,N≤n→codeK (F n) n c st (K' n)=some r:=by
 intro c
 induction c with
 |skip=>intro st K K' r hK he;exact hK _ _ _ he
 |exit id=>intro st K K' r hK he;exact hK _ _ _ he
 |ret=>intro st K K' r hK he;exact hK _ _ _ he
 |bad=>intro st K K' r hK he;cases he
 |region draw ops=>
  intro st K K' r hK he
  unfold codeK at he
  rw[opsK_nat]at he
  simp only[Option.bind_eq_some_iff]at he
  obtain⟨q,h1,h2⟩:=he
  obtain⟨N1,g1⟩:=uy h h1
  have key:∃ N,∀ n,N≤n→(match draw with
   |false=>K' n .norm q.1
   |true=>match oD ops q.2 with |true=>K' n .norm q.1 |false=>none)=some r:=by
   cases draw with
   |false=>exact hK _ _ _ h2
   |true=>
    simp only at h2⊢
    split at h2
    ·rename_i hd;simpa only[hd]using hK _ _ _ h2
    ·cases h2
  obtain⟨N2,g2⟩:=key
  refine⟨max N1 N2,fun n hn=> ?_⟩
  unfold codeK
  rw[opsK_nat]
  simp only[Option.bind_eq_some_iff]
  exact⟨q,g1 n (by omega),g2 n (by omega)⟩
 |seq a b DJ DK=>
  intro st K K' r hK he
  unfold codeK at he⊢
  refine DJ st _ (fun n ex st'=>match ex with
   | .norm=>codeK (F n) n b st' (K' n)
   |ex=>K' n ex st') r ?_ he
  intro ex st r he
  cases ex with
  |norm=>exact DK _ _ _ _ hK he
  |exit id=>exact hK _ _ _ he
  |ret=>exact hK _ _ _ he
 |cond c a b DJ DK=>
  intro st K K' r hK he
  unfold codeK at he⊢
  split at he
  ·rename_i t ht
   cases t with
   |true=>exact DJ _ _ _ _ hK he
   |false=>exact DK _ _ _ _ hK he
  ·cases he
 |block id c ih=>
  intro st K K' r hK he
  unfold codeK at he⊢
  refine ih st _ (fun n ex st'=>match ex with
   | .exit id'=>match Nat.beq id' id with |true=>K' n .norm st' |false=>K' n (.exit id') st'
   |ex=>K' n ex st') r ?_ he
  intro ex st r he
  cases ex with
  |norm=>exact hK _ _ _ he
  |ret=>exact hK _ _ _ he
  |exit id'=>
   simp only at he⊢
   split at he
   ·rename_i hd;simpa only[hd]using hK _ _ _ he
   ·rename_i hd;simpa only[hd]using hK _ _ _ he
 |loop sh c ih=>
  intro st K K' r hK he
  unfold codeK at he⊢
  split at he
  ·rename_i vs hvs
   clear hvs
   revert he
   let G (n:Nat) (vs:List D) (again:List D→Option R):Option R:=codeK (F n) n c (unpack sh st vs) fun ex st'=>match ex with
     | .norm=>match pack sh st' with |some vs'=>again vs' |none=>none
     |ex=>K' n ex st'
   have hG:∀ n (a a':List D→Option R),(∀ vs r,a vs=some r→a' vs=some r)→∀ vs r,G n vs a=some r→G n vs a'=some r:=by
    intro n a a' ha vs r he
    refine cy (E:=F n) (E':=F n) (BP.refl _) (Nat.le_refl _) c _ _ _ r ?_ he
    intro ex st' r' he
    cases ex with
    |norm=>
     simp only at he⊢
     split at he
     ·exact ha _ _ he
     ·cases he
    |exit id=>exact he
    |ret=>exact he
   suffices key:∀ (m:Nat) vs r,iter m (fun vs again=>codeK E k c (unpack sh st vs) fun ex st'=>match ex with
     | .norm=>match pack sh st' with |some vs'=>again vs' |none=>none
     |ex=>K ex st') vs=some r→∃ N,∀ n,N≤n→iter m (G n) vs=some r by
    intro he
    obtain⟨N,hN⟩:=key k vs r he
    exact⟨max N k,fun n hn=>ra (hG n) (by omega) (hN n (by omega))⟩
   intro m
   induction m with
   |zero=>intro vs r he;cases he
   |succ m Mq=>
    intro vs r he
    unfold iter at he
    exact ih _ _ (fun n ex st'=>match ex with
     | .norm=>match pack sh st' with
      |some vs'=>iter m (G n) vs'
      |none=>none
     |ex=>K' n ex st') r (by
      intro ex st' r' he
      cases ex with
      |norm=>
       simp only at he⊢
       split at he
       ·rename_i hv;simpa only[hv]using Mq _ _ he
       ·cases he
      |exit id=>exact hK _ _ _ he
      |ret=>exact hK _ _ _ he) he
  ·cases he
theorem wl {k:Nat} {b:RBody} {e:TypeId} {l r:List D} (he:dround b e E k l=some r):∃ N,∀ n,N≤n→dround b e (F n) n l=some r:=by
 unfold dround at he⊢
 split at he
 ·rename_i x e' nb els
  split at he
  ·rename_i hc
   try simp only[hc]
   unfold droundK at he⊢
   refine dU h _ _ _ (fun n ex st1=>match ex with
    | .norm=>codeK (F n) n b.body st1 fun ex st2=>match ex with
     | .norm=>finishR e st2
     |_=>none
    |_=>none) _ ?_ he
   intro ex st r he
   cases ex with
   |norm=>
    refine dU h _ _ _ (fun n ex st2=>match ex with
     | .norm=>finishR e st2
     |_=>none) _ ?_ he
    intro ex st r he
    cases ex<;>exact⟨0,fun _ _=>he⟩
   |_=>exact⟨0,fun _ _=>he⟩
  ·cases he
 ·cases he
theorem y6 {k:Nat} {f:DFun} {e:TypeId} {caps:List D} {nb:Bool} {els r:List D} (he:diter f e E k caps nb els=some r):∃ N,∀ n,N≤n→diter f e (F n) n caps nb els=some r:=by
 unfold diter at he⊢
 split at he
 ·rename_i hc
  try simp only[hc]
  refine dU h _ _ _ (fun n ex st'=>match ex with
   | .exit _=>none
   |_=>finishR e st') _ ?_ he
  intro ex st r he
  cases ex<;>exact⟨0,fun _ _=>he⟩
 ·cases he
end
section
variable {E:Env} {F:Nat→Env}
theorem pg.on (h:pg E F) {e:TypeId} {f:List D→Option (List D)} {f':Nat→List D→Option (List D)} (hf:∀ l r,f l=some r→∃ N,∀ n,N≤n→f' n l=some r):pg {E with yld:=some (e,f)} (fun n=>{F n with yld:=some (e,f' n)}):=
 ⟨h.ty,h.sig,h.wty,.inr ⟨e,f,f',rfl,fun _=>rfl,hf⟩,h.call⟩
theorem AE (h:pg E F) {k:Nat} {f:RfFun} {st:St} {r:List D} (he:rfGo f E k st=some r):∃ N,∀ n,N≤n→rfGo f (F n) n st=some r:=by
 unfold rfGo at he⊢
 split at he
 case h_2=>cases he
 rename_i g caps oid h1 h2
 try simp only[h1,h2]
 split at he
 case h_2=>cases he
 rename_i c h3 h4 h5
 try simp only[h3,h4,h5]
 split at he
 case h_2=>cases he
 rename_i nb els ws h6
 try simp only[h6]
 split at he
 case h_2=>cases he
 rename_i e' nb' els' h7
 obtain⟨N1,g1⟩:=y6 (h.on (e:=f.e) (f:=dround f.bd f.e E k) (f':=fun n=>dround f.bd f.e (F n) n) (fun l r hl=>wl h hl)) h7
 obtain⟨N2,g2⟩:=dU h _ _ _ (fun n=>rfEnd f) _ (fun ex st r he=>⟨0,fun _ _=>he⟩) he
 refine⟨max N1 N2,fun n hn=> ?_⟩
 have g3:=g1 n (by omega)
 simp only[g3]
 exact g2 n (by omega)
theorem rd (h:pg E F) {k:Nat} {f:RfFun}:∀ (ds:List DCode) {st:St} {r:List D},rfPre f E k ds st=some r→∃ N,∀ n,N≤n→rfPre f (F n) n ds st=some r
 |[],st,r,he=>by
  unfold rfPre at he⊢
  refine dU h _ _ _ (fun n ex st1=>match ex with
   | .norm=>rfGo f (F n) n st1
   |_=>none) _ ?_ he
  intro ex st r he
  cases ex with
  |norm=>exact AE h he
  |_=>exact⟨0,fun _ _=>he⟩
 |d::ds,st,r,he=>by
  unfold rfPre at he⊢
  refine dU h _ _ _ (fun n ex st1=>match ex with
   | .norm=>rfPre f (F n) n ds st1
   |ex=>rfEnd f ex st1) _ ?_ he
  intro ex st r he
  cases ex with
  |norm=>exact rd h ds he
  |_=>exact⟨0,fun _ _=>he⟩
theorem BR (h:pg E F) {k:Nat} {f:RfFun} {l r:List D} (he:drf f E k l=some r):∃ N,∀ n,N≤n→drf f (F n) n l=some r:=by
 unfold drf at he⊢
 split at he
 ·rename_i st hs
  exact rd h _ he
 ·cases he
end
section
variable {E:Env} {F:Nat→Env} (h:pg E F)
include h
theorem wm {k:Nat} {f:DFun} {g:FuncId} {e:TypeId} {n0:Nat} {l r:List D} (he:dbodyW f g e n0 E k l=some r):∃ N,∀ n,N≤n→dbodyW f g e n0 (F n) n l=some r:=by
 unfold dbodyW at he⊢
 split at he
 ·refine dU h _ _ _ (fun n ex st'=>match ex with
   | .exit _=>none
   |_=>finishW g e n0 st') _ ?_ he
  intro ex st r he
  cases ex<;>exact⟨0,fun _ _=>he⟩
 ·cases he
theorem y7 {k:Nat} {f:DFun} {l r:List D} (he:dbody f E k l=some r):∃ N,∀ n,N≤n→dbody f (F n) n l=some r:=by
 unfold dbody at he⊢
 split at he
 ·refine dU h _ _ _ (fun n ex st'=>match ex with
   | .exit _=>none
   |_=>finish f st') _ ?_ he
  intro ex st r he
  cases ex<;>exact⟨0,fun _ _=>he⟩
 ·cases he
end
section
variable (ty:TypeId→Option Vk) (tab:FuncId→Option Entry)
open Classical in
noncomputable def Cl (g:FuncId) (l:List D):Option (List D):=if h:∃ r,Ev ty tab g l r then some h.choose else none
variable {ty:TypeId→Option Vk} {tab:FuncId→Option Entry}
theorem Ev.HT {g:FuncId} {l r r':List D} (h:Ev ty tab g l r) (h':Ev ty tab g l r'):r=r':=by
 obtain⟨k,hk⟩:=h
 obtain⟨k',hk'⟩:=h'
 have h1:=cz (Nat.le_max_left k k') hk
 have h2:=cz (Nat.le_max_right k k') hk'
 rw[h1]at h2
 exact Option.some.inj h2
theorem iZ {g:FuncId} {l r:List D}:Cl ty tab g l=some r↔Ev ty tab g l r:=by
 unfold Cl
 constructor
 ·intro h
  split at h
  ·rename_i hx
   cases h
   exact hx.choose_spec
  ·cases h
 ·intro h
  rw[dif_pos ⟨r,h⟩]
  congr 1
  exact Ev.HT (Exists.choose_spec (⟨r,h⟩:∃ r,Ev ty tab g l r)) h
theorem BS {g:FuncId} {s:zy} {f:List D→Option (List D)} (hg:tab g=some (.spec s f)) (l:List D):Cl ty tab g l=f l:=by
 cases e:f l with
 |some r=>exact iZ.2 ⟨1,by unfold dcall;rw[hg];exact e⟩
 |none=>
  cases e2:Cl ty tab g l with
  |none=>rfl
  |some r=>
   obtain⟨k,hk⟩:=iZ.1 e2
   cases k with
   |zero=>cases hk
   |succ k=>
    unfold dcall at hk
    rw[hg]at hk
    change f l=some r at hk
    rw[e]at hk
    cases hk
theorem Ev.body {g:FuncId} {f:DFun} (hg:tab g=some (.code f)) {l r:List D} (k:Nat) (he:dbody f (envOf ty tab (Cl ty tab)) k l=some r):Ev ty tab g l r:=by
 have h:pg (envOf ty tab (Cl ty tab)) (fun n=>envOf ty tab (dcall ty tab n)):=⟨fun _=>rfl,fun _=>rfl,fun _=>rfl,.inl ⟨rfl,fun _=>rfl⟩,fun g l r hc=>by
  obtain⟨N,hN⟩:=iZ.1 hc
  exact⟨N,fun n hn=>cz hn hN⟩⟩
 obtain⟨N,hN⟩:=y7 h he
 refine⟨N+1, ?_⟩
 unfold dcall
 rw[hg]
 exact hN N (Nat.le_refl _)
theorem Ev.C4 {g:FuncId} {f:DFun} {e:TypeId} {n0:Nat} (hg:tab g=some (.wr f e n0)) {l r:List D} (k:Nat) (he:dbodyW f g e n0 (envOf ty tab (Cl ty tab)) k l=some r):Ev ty tab g l r:=by
 have h:pg (envOf ty tab (Cl ty tab)) (fun n=>envOf ty tab (dcall ty tab n)):=⟨fun _=>rfl,fun _=>rfl,fun _=>rfl,.inl ⟨rfl,fun _=>rfl⟩,fun g l r hc=>by
  obtain⟨N,hN⟩:=iZ.1 hc
  exact⟨N,fun n hn=>cz hn hN⟩⟩
 obtain⟨N,hN⟩:=wm h he
 refine⟨N+1, ?_⟩
 unfold dcall
 rw[hg]
 exact hN N (Nat.le_refl _)
theorem Ev.C5 {g:FuncId} {f:RfFun} (hg:tab g=some (.rf f)) {l r:List D} (k:Nat) (he:drf f (envOf ty tab (Cl ty tab)) k l=some r):Ev ty tab g l r:=by
 have h:pg (envOf ty tab (Cl ty tab)) (fun n=>envOf ty tab (dcall ty tab n)):=⟨fun _=>rfl,fun _=>rfl,fun _=>rfl,.inl ⟨rfl,fun _=>rfl⟩,fun g l r hc=>by
  obtain⟨N,hN⟩:=iZ.1 hc
  exact⟨N,fun n hn=>cz hn hN⟩⟩
 obtain⟨N,hN⟩:=BR h he
 refine⟨N+1, ?_⟩
 unfold dcall
 rw[hg]
 exact hN N (Nat.le_refl _)
theorem Ev.by {g:FuncId} {f:DFun} (hg:tab g=some (.code f)) {l r:List D} (C:FuncId→List D→Option (List D)) (hC:∀ g l r,C g l=some r→Ev ty tab g l r) (k:Nat) (he:dbody f (envOf ty tab C) k l=some r):Ev ty tab g l r:=
 Ev.body hg k (lf (fK fun g l r h=>iZ.2 (hC g l r h)) (Nat.le_refl _) he)
end
end
section
def KV:IntKind→IntKind→Bool:=fun a b=>decide (a=b)
def ob:List UInt8→List UInt8→Bool
 |[],[]=>true
 |a::l,b::m=>Nat.beq a.toNat b.toNat&&ob l m
 |_,_=>false
theorem pk:∀ {a b:List UInt8},ob a b=true→a=b
 |[],[],_=>rfl
 |a::l,b::m,h=>by
  simp only[ob,zq3]at h
  rw[pk h.2,UInt8.toNat_inj.1 (Nat.eq_of_beq_eq_true h.1)]
 |[],_::_,h=>by cases h
 |_::_,[],h=>by cases h
def AF:Int→Int→Bool
 | .ofNat a,.ofNat b=>Nat.beq a b
 | .negSucc a,.negSucc b=>Nat.beq a b
 |_,_=>false
theorem AG {a b:Int} (h:AF a b=true):a=b:=by
 cases a<;>cases b<;>simp[AF]at h<;>subst h<;>rfl
def pm:Bool→Bool→Bool
 |true,true=>true
 |false,false=>true
 |_,_=>false
mutual
def HU (a:D) (b:D):Bool:=match a,b with
 | .undef,.undef=>true
 | .int k n,.int k' n'=>KV k k'&&AF n n'
 | .bool b,.bool b'=>pm b b'
 | .str s,.str s'=>ob s.data.toList s'.data.toList
 | .sl e nb els,.sl e' nb' els'=>Nat.beq e e'&&pm nb nb'&&lh els els'
 | .zs e nb,.zs e' nb'=>Nat.beq e e'&&pm nb nb'
 | .agg cs,.agg cs'=>lh cs cs'
 | .fn g caps,.fn g' Fq=>Nat.beq g g'&&lh caps Fq
 | .nilfn,.nilfn=>true
 | .rp cs off,.rp cs' oH=>Nat.beq off oH&&lh cs cs'
 | .tup ds,.tup jB=>lh ds jB
 | .ov e nb els,.ov e' nb' els'=>Nat.beq e e'&&pm nb nb'&&lh els els'
 | .pv cs,.pv cs'=>lh cs cs'
 | .mpl cs ds,.mpl cs' jB=>lh cs cs'&&lh ds jB
 | .mpv cs ds,.mpv cs' jB=>lh cs cs'&&lh ds jB
 |_,_=>false
def lh (a:List D) (b:List D):Bool:=match a,b with
 |[],[]=>true
 |x::xs,y::ys=>HU x y&&lh xs ys
 |_,_=>false
end
theorem ki {a b:Bool} (h:pm a b=true):a=b:=by cases a<;>cases b<;>first |rfl |cases h
mutual
theorem DL (a:D) (b:D) (h:HU a b=true):a=b:=by
 cases a<;>cases b<;>simp only[HU,zq3,Bool.false_eq_true]at h
 case undef.undef=>rfl
 case nilfn.nilfn=>rfl
 case int.int=>simp only[KV,decide_eq_true_eq]at h;rw[h.1,AG h.2]
 case bool.bool=>rw[ki h]
 case str.str s s'=>
  have:=pk h
  obtain⟨⟨l⟩⟩:=s
  obtain⟨⟨m⟩⟩:=s'
  simp at this
  rw[this]
 case sl.sl=>rw[Nat.eq_of_beq_eq_true h.1.1,ki h.1.2,dm _ _ h.2]
 case zs.zs=>rw[Nat.eq_of_beq_eq_true h.1,ki h.2]
 case agg.agg=>rw[dm _ _ h]
 case fn.fn=>rw[Nat.eq_of_beq_eq_true h.1,dm _ _ h.2]
 case rp.rp=>rw[Nat.eq_of_beq_eq_true h.1,dm _ _ h.2]
 case tup.tup=>rw[dm _ _ h]
 case ov.ov=>rw[Nat.eq_of_beq_eq_true h.1.1,ki h.1.2,dm _ _ h.2]
 case pv.pv=>rw[dm _ _ h]
 case mpl.mpl=>rw[dm _ _ h.1,dm _ _ h.2]
 case mpv.mpv=>rw[dm _ _ h.1,dm _ _ h.2]
theorem dm (a:List D) (b:List D) (h:lh a b=true):a=b:=by
 cases a<;>cases b<;>simp only[lh,zq3,Bool.false_eq_true]at h
 case nil.nil=>rfl
 case cons.cons=>rw[DL _ _ h.1,dm _ _ h.2]
end
abbrev Row:=FuncId×List D×List D
def lP:List Row→FuncId→List D→Option (List D)
 |[],_,_=>none
 |(g',l',r')::t,g,l=>match Nat.beq g' g&&lh l' l with
  |true=>some r'
  |false=>lP t g l
def nz (ty:TypeId→Option Vk) (tab:FuncId→Option Entry):List Row→Prop
 |[]=>True
 |(g,l,r)::t=>Ev ty tab g l r∧nz ty tab t
theorem pn {ty:TypeId→Option Vk} {tab:FuncId→Option Entry}:∀ {t:List Row},nz ty tab t→∀ g l r,lP t g l=some r→Ev ty tab g l r
 |[],_,g,l,r,h=>by cases h
 |(g',l',r')::t,h,g,l,r,hl=>by
  unfold lP at hl
  split at hl
  ·rename_i hb
   simp only[zq3]at hb
   cases hl
   rw[←Nat.eq_of_beq_eq_true hb.1,←dm _ _ hb.2]
   exact h.1
  ·exact pn h.2 g l r hl
theorem Ev.row {ty:TypeId→Option Vk} {tab:FuncId→Option Entry} {g:FuncId} {f:DFun} (hg:tab g=some (.code f)) {l r:List D} (t:List Row) (ht:nz ty tab t) (k:Nat) (he:dbody f (envOf ty tab (lP t)) k l=some r):Ev ty tab g l r:=
 Ev.by hg (lP t) (pn ht) k he
def DM (ty:TypeId→Option Vk) (tab:FuncId→Option Entry) (t:List Row) (k:Nat) (g:FuncId) (l:List D):Option (List D):=
 match tab g with
 |some (.code f)=>dbody f (envOf ty tab (lP t)) k l
 |some (.wr f e n)=>dbodyW f g e n (envOf ty tab (lP t)) k l
 |some (.rf f)=>drf f (envOf ty tab (lP t)) k l
 |_=>none
theorem Ev.any {ty:TypeId→Option Vk} {tab:FuncId→Option Entry} {g:FuncId} {l r:List D} {t:List Row} (ht:nz ty tab t) (k:Nat) (he:DM ty tab t k g l=some r):Ev ty tab g l r:=by
 have le:BP (envOf ty tab (lP t)) (envOf ty tab (Cl ty tab)):=fK fun g l r h=>iZ.2 (pn ht g l r h)
 unfold DM at he
 split at he
 ·rename_i f hf
  exact Ev.row hf t ht k he
 ·rename_i f e n hf
  exact Ev.C4 hf k (ny le (Nat.le_refl _) he)
 ·rename_i f hf
  exact Ev.C5 hf k (uw le (Nat.le_refl _) he)
 ·cases he
theorem Ev.told {ty:TypeId→Option Vk} {tab:FuncId→Option Entry} {g:FuncId} {s:zy} {f:List D→Option (List D)} {l r:List D} (hg:tab g=some (.spec s f)) (h:f l=some r):Ev ty tab g l r:=
 ⟨1,by unfold dcall;rw[hg];exact h⟩
end
section
section
variable {E:Env} {k:Nat}
def ret (ex:Ex) (st:St):Option (Ex×St):=some (ex,st)
end
end
section
section
variable {ty:TypeId→Option Vk} {tab:FuncId→Option Entry}
theorem BT {g:FuncId} {f:DFun} (hg:tab g=some (.code f)) {l r:List D} (k:Nat) (he:dbody f (envOf ty tab (Cl ty tab)) k l=some r):Cl ty tab g l=some r:=iZ.2 (Ev.body hg k he)
theorem AH {g:FuncId} {f:DFun} {e:TypeId} {n:Nat} (hg:tab g=some (.wr f e n)) {l r:List D} (k:Nat) (he:dbodyW f g e n (envOf ty tab (Cl ty tab)) k l=some r):Cl ty tab g l=some r:=iZ.2 (Ev.C4 hg k he)
theorem AJ {g:FuncId} {f:RfFun} (hg:tab g=some (.rf f)) {l r:List D} (k:Nat) (he:drf f (envOf ty tab (Cl ty tab)) k l=some r):Cl ty tab g l=some r:=iZ.2 (Ev.C5 hg k he)
def wn (x:Option (List D)) (K:Bool→List D→Option (List D)):Option (List D):=match x with
 |some [.ov _ nb els]=>K nb els
 |_=>none
abbrev Im (a b:Option (List D)):Prop:=∀ {r:List D},a=some r→b=some r
theorem aG {g:FuncId} {f:DFun} (hg:tab g=some (.code f)) {l:List D} {a:Option (List D)} (k:Nat) (he:dbody f (envOf ty tab (Cl ty tab)) k l=a):Im a (Cl ty tab g l):=fun h=>BT hg k (he.trans h)
theorem DN {g:FuncId} {f:DFun} {e:TypeId} {n:Nat} (hg:tab g=some (.wr f e n)) {l:List D} {a:Option (List D)} (k:Nat) (he:dbodyW f g e n (envOf ty tab (Cl ty tab)) k l=a):Im a (Cl ty tab g l):=fun h=>AH hg k (he.trans h)
theorem DO {g:FuncId} {f:RfFun} (hg:tab g=some (.rf f)) {l:List D} {a:Option (List D)} (k:Nat) (he:drf f (envOf ty tab (Cl ty tab)) k l=a):Im a (Cl ty tab g l):=fun h=>AJ hg k (he.trans h)
theorem wo {g:FuncId} {ks:List Vk} (h:∀ dd:List D,fitsV ks dd=true→(∀ d,d∈dd→WT ty d)→Cl ty tab g dd=some [.bool true]):sw ty tab g ks:=
 fun dd h1 h2=>iZ.1 (h dd h1 h2)
end
theorem br {R σ:Type} {F:List D→(List D→Option R)→Option R} (enc:σ→List D) (val:σ→Option R) (m:σ→Nat) (GF:σ→Prop)
  (step:∀ s,GF s→∀ again,(∀ s',GF s'→m s'<m s→again (enc s')=val s')→F (enc s) again=val s):∀ (k:Nat) (s:σ),GF s→m s<k→iter k F (enc s)=val s
 |0,s,_,hk=>by omega
 |k+1,s,hs,hk=>by
  unfold iter
  exact step s hs _ fun s' zz hm=>br enc val m GF step k s' zz (by omega)
theorem cS {R:Type} {F:List D→(List D→Option R)→Option R} (n:Nat) (enc:Nat→List D) (val:Nat→Option R)
  (step:∀ i,i<n→∀ again,again (enc (i+1))=val (i+1)→F (enc i) again=val i) (fin:∀ again,F (enc n) again=val n) (k:Nat) (hk:n<k) (i:Nat) (hi:i≤n):iter k F (enc i)=val i:=by
 refine br enc val (fun i=>n - i) (fun i=>i≤n) (fun s hs again h=> ?_) k i hi (by omega)
 rcases Nat.lt_or_ge s n with h1 |h1
 ·exact step s h1 again (h (s+1) (by omega) (by omega))
 ·have:s=n:=by omega
  subst this
  exact fin again
theorem y8 {R α:Type} {F:List D→(List D→Option R)→Option R} (l:List α) (enc:Nat→List D) (val:List α→Option R)
  (step:∀ i (hi:i<l.length),∀ again,again (enc (i+1))=val (l.drop (i+1))→F (enc i) again=val (l[i]::l.drop (i+1))) (fin:∀ again,F (enc l.length) again=val []) (k:Nat) (hk:l.length<k):iter k F (enc 0)=val l:=by
 have:=cS (F:=F) l.length enc (fun i=>val (l.drop i)) (fun i hi again h=>by
  rw[List.drop_eq_getElem_cons hi];exact step i hi again h) (fun again=>by rw[List.drop_length];exact fin again) k hk 0 (by omega)
 simpa using this
theorem jL {α:Type} {f:α→D} {Q:α→Prop}:∀ {els:List D},(∀ d,d∈els→∃ a,d=f a∧Q a)→∃ L:List α,els=L.map f∧∀ a,a∈L→Q a
 |[],_=>⟨[],rfl,fun a h=>by cases h⟩
 |d::els,h=>by
  obtain⟨a,rfl,hq⟩:=h d (List.mem_cons_self ..)
  obtain⟨L,rfl,hL⟩:=jL (els:=els) fun d hd=>h d (List.mem_cons_of_mem _ hd)
  exact⟨a::L,rfl,fun b hb=>by
   rcases List.mem_cons.1 hb with rfl |hb
   ·exact hq
   ·exact hL b hb⟩
theorem cP:∃ k:Nat,9223372036854775808<k:=⟨_,Nat.lt_succ_self _⟩
@[simp] theorem uz (k:IntKind) (n:Int):(D.int k n).cell 0= .int k n:=rfl
@[simp] theorem y9 (b:Bool):(D.bool b).cell 0= .bool b:=rfl
@[simp] theorem Fr (s:ByteArray):(D.str s).cell 0= .str s:=rfl
@[simp] theorem GG (e:TypeId) (nb:Bool) (l:List D):(D.sl e nb l).cell 0= .sl e nb l:=rfl
@[simp] theorem Fs (cs:List D) (j:Nat):(D.agg cs).cell j=cs.getD j .undef:=rfl
@[simp] theorem C6 (k:IntKind) (n:Int):(D.int k n).i=n:=rfl
@[simp] theorem DP (b:Bool):(D.bool b).b=b:=rfl
@[simp] theorem KW (s:ByteArray):(D.str s).s=s:=rfl
@[simp] theorem KX (e:TypeId) (nb:Bool) (l:List D):(D.sl e nb l).nb=nb:=rfl
@[simp] theorem HW (e:TypeId) (nb:Bool) (l:List D):(D.sl e nb l).els=l:=rfl
@[simp] theorem C7 (e:TypeId) (nb:Bool) (l:List D):(D.ov e nb l).nb=nb:=rfl
@[simp] theorem AK (e:TypeId) (nb:Bool) (l:List D):(D.ov e nb l).els=l:=rfl
@[simp] theorem KY (l:List D):(D.pv l).cs=l:=rfl
@[simp] theorem HX (l:List D):(D.agg l).cs=l:=rfl
theorem bo {α:Type} {f:α→D} {l:List α} {i:Nat} (h:i<l.length):(l.map f).getD i .undef=f l[i]:=by
 simp[zq1,h]
theorem wrap64 {n:Int} (h1: -9223372036854775808≤n) (h2:n≤9223372036854775807):IntKind.i64.wrap n=n:=by
 rw[IntKind.wrap_i64];omega
theorem cp {α:Type} {p:Prop} [Decidable p] {a b:α} (h:p):(bif decide p then a else b)=a:=by simp[h]
theorem cn {α:Type} {p:Prop} [Decidable p] {a b:α} (h: ¬p):(bif decide p then a else b)=b:=by simp[h]
theorem Mr {α:Type} {p:Prop} [Decidable p] {a b:α} (h:p):(bif !decide p then a else b)=b:=by simp[h]
theorem Ms {α:Type} {p:Prop} [Decidable p] {a b:α} (h: ¬p):(bif !decide p then a else b)=a:=by simp[h]
theorem ct {α:Type} {a b:α}:(bif true then a else b)=a:=rfl
theorem cf {α:Type} {a b:α}:(bif false then a else b)=b:=rfl
theorem Ft (a b:Int):(a==b)=decide (a=b):=by by_cases h:a=b<;>simp[h]
theorem HY (a b:Int):(a !=b)=decide (a≠b):=by by_cases h:a=b<;>simp[h]
theorem c2 {i:Nat} {n:Int} (h:n=i) (h1:n.toNat=i):n.toNat=i:=h1
theorem wq (i:Nat):((i:Int)+1).toNat=i+1:=by omega
theorem mid {i j:Nat} (h1:i≤j) (h2:j≤9223372036854775807):IntKind.i64.wrap (Int.fdiv (IntKind.u64.wrap (IntKind.i64.wrap ((i:Int)+(j:Int)))) (2^1))=(((i+j)/2:Nat):Int):=by
 have e1:IntKind.u64.wrap (IntKind.i64.wrap ((i:Int)+(j:Int)))=(i:Int)+j:=by
  have e2:∀ n:Int,IntKind.u64.wrap n=n % 18446744073709551616:=fun n=>by simp[IntKind.wrap,IntKind.bits,IntKind.signed]
  rw[e2,IntKind.wrap_i64]
  omega
 rw[e1,Int.fdiv_eq_ediv_of_nonneg _ (by omega)]
 rw[wrap64 (by omega) (by omega)]
 omega
theorem pp {k:Vk} {ks:List Vk} {dd:List D} (h:fitsV (k::ks) dd=true):∃ d ds,dd=d::ds∧k.fits d=true∧fitsV ks ds=true:=by
 cases dd with
 |nil=>cases h
 |cons d ds=>simp only[fitsV,zq3]at h;exact⟨d,ds,rfl,h.1,h.2⟩
theorem y_ {dd:List D} (h:fitsV [] dd=true):dd=[]:=by
 cases dd with
 |nil=>rfl
 |cons d ds=>cases h
theorem cA {k:Sk} {ks:List Sk} {dd:List D} (h:fitsL (k::ks) dd=true):∃ d ds,dd=d::ds∧fits k d=true∧fitsL ks ds=true:=by
 cases dd with
 |nil=>cases h
 |cons d ds=>simp only[fitsL,zq3]at h;exact⟨d,ds,rfl,h.1,h.2⟩
theorem re {dd:List D} (h:fitsL [] dd=true):dd=[]:=by
 cases dd with
 |nil=>rfl
 |cons d ds=>cases h
theorem uA {s:Sk} {d:D} (h:Vk.fits ⟨false,[s]⟩ d=true):fits s d=true:=by
 simpa[Vk.fits,fitsL]using h
theorem uB {ks:List Sk} {d:D} (h:Vk.fits ⟨true,ks⟩ d=true):∃ cs,d= .agg cs∧fitsL ks cs=true:=by
 cases d<;>simp[Vk.fits]at h
 exact⟨_,rfl,h⟩
theorem xB {e:TypeId} {d:D} (h:fits (.sl e) d=true):∃ nb els,d= .sl e nb els:=by
 cases d<;>simp[fits]at h
 subst h;exact⟨_,_,rfl⟩
theorem eh {k:IntKind} {d:D} (h:fits (.int k) d=true):∃ n,d= .int k n:=by
 cases d<;>simp[fits]at h
 subst h;exact⟨_,rfl⟩
theorem WT.cells {ty:TypeId→Option Vk} {cs:List D} (h:WT ty (.agg cs)):∀ d,d∈cs→WT ty d:=by cases h with |agg _ h=>exact h
theorem WT.els {ty:TypeId→Option Vk} {e:TypeId} {nb:Bool} {els:List D} (h:WT ty (.sl e nb els)):els.length≤9223372036854775807∧(nb=true→els=[])∧(∀ k,ty e=some k→∀ d,d∈els→k.fits d=true)∧∀ d,d∈els→WT ty d:=by
 cases h with |sl _ _ _ h1 h2 h3 h4=>exact⟨by simpa[maxLen]using h1,h2,h3,h4⟩
theorem WT.KZ {ty:TypeId→Option Vk} {k:IntKind} {n:Int} (h:WT ty (.int k n)):k.min≤n∧n≤k.max:=by
 cases h with |int _ _ h=>simpa[Lit.wf]using h
def gD (l:List D) (n:Nat):D:=l.getD n .undef
def gI (l:List D) (n j:Nat):Int:=((l.getD n .undef).cell j).i
def gB (l:List D) (n j:Nat):Bool:=((l.getD n .undef).cell j).b
def gN (l:List D) (n j:Nat):Bool:=((l.getD n .undef).cell j).nb
def gE (l:List D) (n j:Nat):List D:=((l.getD n .undef).cell j).els
def gS (e:TypeId) (l:List D) (n j:Nat):D:= .sl e ((l.getD n .undef).cell j).nb ((l.getD n .undef).cell j).els
def gP (e:TypeId) (l:List D) (n j:Nat):D:= .sl e ((l.getD n .undef).cs.getD j .undef).nb ((l.getD n .undef).cs.getD j .undef).els
def gQ (e:TypeId) (l:List D) (n j:Nat):D:= .ov e ((l.getD n .undef).cs.getD j .undef).nb ((l.getD n .undef).cs.getD j .undef).els
theorem HZ:(∀ e l n j,gS e l n j= .sl e ((l.getD n .undef).cell j).nb ((l.getD n .undef).cell j).els)∧(∀ e l n j,gP e l n j= .sl e ((l.getD n .undef).cs.getD j .undef).nb ((l.getD n .undef).cs.getD j .undef).els)∧(∀ e l n j,gQ e l n j= .ov e ((l.getD n .undef).cs.getD j .undef).nb ((l.getD n .undef).cs.getD j .undef).els)∧(∀ l n,gD l n=l.getD n .undef)∧(∀ l n j,gI l n j=((l.getD n .undef).cell j).i)∧(∀ l n j,gB l n j=((l.getD n .undef).cell j).b)∧(∀ l n j,gN l n j=((l.getD n .undef).cell j).nb)∧(∀ l n j,gE l n j=((l.getD n .undef).cell j).els):=⟨fun _ _ _ _=>rfl,fun _ _ _ _=>rfl,fun _ _ _ _=>rfl,fun _ _=>rfl,fun _ _ _=>rfl,fun _ _ _=>rfl,fun _ _ _=>rfl,fun _ _ _=>rfl⟩
theorem aA:((∀ e l n j,gS e l n j= .sl e ((l.getD n .undef).cell j).nb ((l.getD n .undef).cell j).els)∧(∀ e l n j,gP e l n j= .sl e ((l.getD n .undef).cs.getD j .undef).nb ((l.getD n .undef).cs.getD j .undef).els)∧(∀ e l n j,gQ e l n j= .ov e ((l.getD n .undef).cs.getD j .undef).nb ((l.getD n .undef).cs.getD j .undef).els)∧(∀ l n,gD l n=l.getD n .undef)∧(∀ l n j,gI l n j=((l.getD n .undef).cell j).i)∧(∀ l n j,gB l n j=((l.getD n .undef).cell j).b)∧(∀ l n j,gN l n j=((l.getD n .undef).cell j).nb)∧(∀ l n j,gE l n j=((l.getD n .undef).cell j).els))∧(∀ h:Decidable True, @decide True h=true)∧(∀ h:Decidable False, @decide False h=false)∧
  (∀ (α:Type) (h:Decidable True) (a b:α), @ite α True h a b=a)∧(∀ (α:Type) (h:Decidable False) (a b:α), @ite α False h a b=b)∧
  ((false=true)=False)∧((true=false)=False)∧(∀ (α:Type) (a:α),(a=a)=True)∧
  (∀ b,(true ||b)=true)∧(∀ b,(false ||b)=b)∧(∀ b,(true&&b)=b)∧(∀ b,(false&&b)=false)∧(∀ b,(b ||true)=true)∧(∀ b,(b ||false)=b)∧(∀ b,(b&&true)=b)∧(∀ b,(b&&false)=false)∧
  (∀ (x:D) l d,(x::l).getD 0 d=x)∧(∀ (x:D) l n d,(x::l).getD (n+1) d=l.getD n d)∧
  (∀ k n,(D.int k n).cell 0= .int k n)∧(∀ b,(D.bool b).cell 0= .bool b)∧(∀ s,(D.str s).cell 0= .str s)∧(∀ e b l,(D.sl e b l).cell 0= .sl e b l)∧(∀ cs j,(D.agg cs).cell j=cs.getD j .undef)∧
  (∀ k n,(D.int k n).i=n)∧(∀ b,(D.bool b).b=b)∧(∀ s,(D.str s).s=s)∧(∀ e b l,(D.sl e b l).nb=b)∧(∀ e b l,(D.sl e b l).els=l)∧(∀ e b l,(D.ov e b l).nb=b)∧(∀ e b l,(D.ov e b l).els=l)∧(∀ l,(D.pv l).cs=l)∧(∀ l,(D.agg l).cs=l)∧
  (∀ n:Nat,(n:Int).toNat=n)∧(∀ i:Nat,1≤i→((i:Int) - 1).toNat=i - 1)∧(∀ i:Nat,((i:Int)+1).toNat=i+1)∧
  (∀ (α β:Type) (f:α→β) l,(List.map f l).length=l.length)∧(∀ (α:Type) (f:α→D) (l:List α) (i:Nat) (h:i<l.length),(l.map f).getD i .undef=f l[i])∧
  (∀ (α:Type) (a b:α),(bif true then a else b)=a)∧(∀ (α:Type) (a b:α),(bif false then a else b)=b)∧(∀ a b:Int,(a==b)=decide (a=b))∧(∀ a b:Int,(a !=b)=decide (a≠b))∧
  (∀ (α:Type) (p:Prop) (h:Decidable p) (a b:α),p→(bif @decide p h then a else b)=a)∧(∀ (α:Type) (p:Prop) (h:Decidable p) (a b:α),¬p→(bif @decide p h then a else b)=b)∧
  (∀ (α:Type) (p:Prop) (h:Decidable p) (a b:α),p→(bif !@decide p h then a else b)=b)∧(∀ (α:Type) (p:Prop) (h:Decidable p) (a b:α),¬p→(bif !@decide p h then a else b)=a)∧
  (∀ (α:Type) (p:Prop) (h:Decidable p) (a b:α),p→ @ite α p h a b=a)∧(∀ (α:Type) (p:Prop) (h:Decidable p) (a b:α),¬p→ @ite α p h a b=b)∧
  (∀ n:Int, -9223372036854775808≤n→n≤9223372036854775807→IntKind.i64.wrap n=n)∧(∀ (α β:Type) (a:α) (f:α→Option β),(some a).bind f=f a)∧((!true)=false)∧((!false)=true)∧
  ((([]:List D).isEmpty)=true)∧(∀ l:List D,[]++l=l)∧(([]:List D).length=0)∧(∀ (x:D) l,(x::l).length=l.length+1)∧(∀ n,0+n=n):=by
 refine⟨HZ, ?_, ?_, ?_, ?_, ?_, ?_, ?_, ?_, ?_, ?_, ?_, ?_, ?_, ?_, ?_,fun _ _ _=>rfl,fun _ _ _ _=>rfl,fun _ _=>rfl,fun _=>rfl,fun _=>rfl,fun _ _ _=>rfl,fun _ _=>rfl,fun _ _=>rfl,fun _=>rfl,fun _=>rfl,fun _ _ _=>rfl,fun _ _ _=>rfl,fun _ _ _=>rfl,fun _ _ _=>rfl,fun _=>rfl,fun _=>rfl, ?_, ?_, ?_, ?_,fun _ f l i h=>bo h, ?_, ?_,Ft,HY,fun _ p _ _ _ h=>cp h,fun _ p _ _ _ h=>cn h,fun _ p _ _ _ h=>Mr h,fun _ p _ _ _ h=>Ms h,fun _ p _ _ _ h=>if_pos h,fun _ p _ _ _ h=>if_neg h,fun _=>wrap64,fun _ _ _ _=>rfl,rfl,rfl,rfl,fun _=>rfl,rfl,fun _ _=>rfl, ?_⟩<;>intros<;>first |rfl |omega |simp
end
end Go.Proofs.Ytkfnkiejikhglaa.GD
