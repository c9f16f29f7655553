/- A value-level interpreter of the translated code, with the proof that it is sound: part 5. -/
import Derived.Test.YtkfnkiejikhglaaG4
set_option linter.unusedVariables false
set_option linter.unusedSimpArgs false
namespace Go.Proofs.Ytkfnkiejikhglaa.GD
section
open Go Go.ChangeShapes Go.RowKit
theorem yE {P:Program} {ty:TypeId→Option Vk} {t:TypeId} {k:Vk} (h:parOk P ty t k=true):
  ksOf P 20 t=some k.ks∧isAggT P t=some k.agg∧P.cellsOf t=k.ks.length∧clo ty k.ks∧P.readableRec t=true∧t<P.types.size:=by
 simp only[parOk,zq3,beq_iff_eq,Nat.blt_eq]at h
 obtain⟨⟨⟨⟨⟨h1,h2⟩,h3⟩,h4⟩,h5⟩,h6⟩:=h
 exact⟨h1,h2,h3,clo_of h4,h5,h6⟩
theorem tK {H:Type} {enc:TypeId×Value→H} {P:Program} {ty:TypeId→Option Vk} {W:World} {base:Nat} (hl:laidOutB P=true) (hty:KsOk P ty):
  ∀ (ts:List TypeId) (ks:List Vk) (vs:List Value) (ds:List (DataW H)) (ps:List MemPlace),parsOk P ty ts ks=true→DataW.TrodAll enc P W 0 (fun _=>true) true ts vs ds ps→
   (∀ (j:Nat) t v,ts[j]? =some t→vs[j]? =some v→Value.okWide P W .any base t v)→
   ∃ dd:List D,fitsV ks dd=true∧vs.length=ks.length∧dd.length=ks.length∧ds.length=ks.length∧(∀ d,d∈dd→WT ty d)∧
    (∀ i,i<ks.length→pureD (dd.getD i .undef)=true∧RepV ty W (fun b=>b<W.heap.size) (vs.getD i undef) (dd.getD i .undef))∧
    ∀ W',Below W.heap.size W W'→DataW.TrodAll enc P W' 0 (fun b=>decide (b<W.heap.size)) true ts vs ds ps
 |[],ks,vs,ds,ps,hp,h,_=>by
  obtain⟨rfl,rfl,rfl⟩:=trodAll_nil h
  cases ks with
  |cons k ks=>simp[parsOk]at hp
  |nil=>exact⟨[],rfl,rfl,rfl,rfl,(fun d hd=>by cases hd),(fun i hi=>by simp at hi),fun W' _=>trodAll_mk0⟩
 |t::ts,ks,vs,ds,ps,hp,h,hok=>by
  obtain⟨v,vs',d,k_,p,q,rfl,rfl,rfl,h1,h2⟩:=trodAll_cons h
  cases ks with
  |nil=>simp[parsOk]at hp
  |cons k ks=>
   simp only[parsOk,zq3]at hp
   obtain⟨k1,k2,k3,k4,k5,k6⟩:=yE hp.1
   obtain⟨dd,r1,r2,r3,r4,r5,r6,r7⟩:=tK hl hty ts ks vs' k_ q hp.2 h2 fun j t v a b=>hok (j+1) t v a b
   obtain⟨fuel,hf⟩:=h1
   have Cc:k.agg=false→k.ks.length=1:=fun hka=>isAgg_one k1 (by rw[k2,hka])
   have told:=trod_told hty rfl fuel 20 t k.ks _ _ k1 k3 k4 hf
   obtain⟨x,x1,x2,x3,x4⟩:=told_arg k2 Cc (hok 0 t v rfl rfl) told
   refine⟨x::dd,by simp[fitsV,x1,r1],by simp[r2],by simp[r3],by simp[r4],fun d hd=> ?_,fun i hi=> ?_,fun W' hb=> ?_⟩
   ·rcases List.mem_cons.1 hd with rfl |hd
    ·exact x3
    ·exact r5 d hd
   ·cases i with
    |zero=>exact⟨x2,x4⟩
    |succ i=>simpa using r6 i (by simpa using hi)
   ·exact trodAll_cons_mk (Below.trod hl k5 k6 ⟨fuel,hf⟩ hb (fun y hy=>DataW.trod_lt fuel _ _ _ hf y hy)) (r7 W' hb)
def uQ (ty:TypeId→Option Vk) (tab:FuncId→Option Entry) (g:FuncId) (ks:List Vk):Prop:=
 ∀ dd:List D,fitsV ks dd=true→(∀ d,d∈dd→WT ty d)→∃ k,dcall ty tab k g dd=some [.bool true]
theorem wJ {C:Checked} {os:Os} {ty:TypeId→Option Vk} {tab:FuncId→Option Entry} {f:FuncId} {fn:Func} {s:ChangeSpec} {ks:List Vk} {en:Entry} {tb:TypeId}
  (hl:laidOutB C.prog=true) (JQ:TabOk C.prog ty tab) (hty:KsOk C.prog ty) (own:ownKnob C.prog.godebug=none) (nM:os.Started) (F3:C.prog.inits.idxOf? f=none) (hfn:C.prog.funcs[f]? =some fn)
  (JR:parsOk C.prog ty fn.params.toList ks=true) (hres:fn.resultTypes= #[tb]) (hb:C.prog.underlying tb=some .bool) (Fi:s.vars=[])
  (HO:∀ (H:Type) (ds:List (DataW H)),ds.length=ks.length→s.fn H ds={results:=[.lit (.bool true)],args:=ds})
  (hg:tab f=some en) (ham:en.sig.am=List.replicate ks.length .p) (hrm:en.sig.rm=[.p ⟨false,[.bool]⟩]) (law:uQ ty tab f ks)
  {H:Type} {enc:TypeId×Value→H}
  (Ea:∃ (w:World) (tape:Tape) (i:Input),w.os=os∧(w.forCall tape i).Shaped C.prog∧i.vars=[]∧Input.okWide C.prog (w.forCall tape i) .any w.heap.size f i∧
   s.pre6 enc C.prog fn [] false (w.forCall tape i).memory i.args∧({}:Assume).holds C.prog (lone (Frame.enter C.prog f i.args .normal) [] (w.forCall tape i))):
  ReturnsInHanded {} C os f .any (s.pre6 enc C.prog fn [] false) (s.post enc C.prog fn false true false false):=by
 refine returnsInHanded_of_change_sized own nM F3 hfn Ea ?_
 intro W base args ds gs JS JT hW _ _ _
 have Mp:=hW
 obtain⟨p,q,hA,hV,rfl,DF,hnd⟩:=hW
 rw[Fi]at hV
 obtain⟨rfl,rfl⟩:=trodVars_none hV
 obtain⟨dd,r1,r2,r3,r4,r5,r6,r7⟩:=tK (base:=base) hl hty fn.params.toList ks args.toList ds p JR hA (fun j t v a b=>JT j t v (by simpa using a) (by simpa using b))
 obtain⟨k,hk⟩:=law dd r1 r5
 refine (law_calls JQ hg (n:=ks.length) ham hrm (vs:=args) (by simpa using r2) r3 (fun i hi=> ?_) hk).mono fun e W' ⟨he,h1,h2,h3,h4,h5⟩=> ?_
 ·have:=r6 i hi
  have e:args.toList.getD i undef=args.getD i undef:=by rw[zq1,Array.getElem?_toList,←zq2]
  rwa [e]at this
 ·subst he
  have K3:Below W.heap.size W W':=⟨h2,h1,h3,h4,h5⟩
  have e1:s.fn H (ds++[])={results:=[.lit (.bool true)],args:=ds}:=by rw[List.append_nil];exact HO H ds r4
  refine⟨_,rfl,ds,[],p++[],[],p,[],Mp, ?_, ?_, ?_,K3.frame _,fun h=>by cases h⟩
  ·rw[e1,hres]
   exact trodAll_mk1 (shut_bool hb _)
  ·rw[e1]
   exact r7 W' K3
  ·rw[e1,Fi]
   rfl
end
section
def zP (P:Program) (ty:TypeId→Option Vk):List (Nat×Vk)→Bool
 |[]=>true
 |(e,k)::l=>(!k.ks.all Sk.data ||(ksOf P 20 e==some k.ks&&isAggT P e==some k.agg&&P.cellsOf e==k.ks.length&&k.ks.all (telling ty)&&Nat.blt 0 k.ks.length))&&zP P ty l
theorem dN {α:Type}:∀ {l:List (Nat×α)} {e:Nat} {x:α},l.lookup e=some x→(e,x)∈l
 |[],_,_,h=>by simp at h
 |(a,b)::l,e,x,h=>by
  rw[List.lookup_cons]at h
  split at h
  ·rename_i he
   simp only[beq_iff_eq]at he
   cases h;subst he
   exact List.mem_cons_self ..
  ·exact List.mem_cons_of_mem _ (dN h)
theorem tL {P:Program} {ty:TypeId→Option Vk}:∀ {l:List (Nat×Vk)},zP P ty l=true→∀ {e k},(e,k)∈l→
  (!k.ks.all Sk.data ||(ksOf P 20 e==some k.ks&&isAggT P e==some k.agg&&P.cellsOf e==k.ks.length&&k.ks.all (telling ty)&&Nat.blt 0 k.ks.length))=true
 |(a,b)::l,h,e,k,hm=>by
  simp only[zP,zq3]at h
  rcases List.mem_cons.1 hm with h1 |h1
  ·cases h1;exact h.1
  ·exact tL h.2 h1
 |[],_,_,_,hm=>by cases hm
theorem Eb {P:Program} {tyL:List (Nat×Vk)} (h:zP P (fun e=>tyL.lookup e) tyL=true):KsOk P (fun e=>tyL.lookup e):=by
 intro e k he hd
 have:=tL h (dN he)
 simp only[hd,Bool.not_true,Bool.false_or,zq3,beq_iff_eq,Nat.blt_eq]at this
 obtain⟨⟨⟨⟨h1,h2⟩,h3⟩,h4⟩,h5⟩:=this
 exact⟨⟨20,h1⟩,h2,h3,clo_of h4,h5⟩
theorem tM {P:Program}:∀ {l:List (Nat×Vk)},zw P l=true→∀ {e k},(e,k)∈l→szOk P e k=true∧0<k.ks.length
 |(a,b)::l,h,e,k,hm=>by
  simp only[zw,zq3,Nat.blt_eq]at h
  rcases List.mem_cons.1 hm with h1 |h1
  ·cases h1;exact h.1
  ·exact tM h.2 h1
 |[],_,_,_,hm=>by cases hm
theorem iD {P:Program} {ty:TypeId→Option Vk}:∀ {l:List (Nat×Entry)},cN P ty l=true→∀ {g f},(g,Entry.code f)∈l→chkFun P ty g f=true
 |(a,.code b)::l,h,g,f,hm=>by
  simp only[cN,zq3]at h
  rcases List.mem_cons.1 hm with h1 |h1
  ·cases h1;exact h.1
  ·exact iD h.2 h1
 |(a,.spec s b)::l,h,g,f,hm=>by
  simp only[cN]at h
  rcases List.mem_cons.1 hm with h1 |h1
  ·cases h1
  ·exact iD h h1
 |(a,.wr f' e n)::l,h,g,f,hm=>by
  simp only[cN,zq3]at h
  rcases List.mem_cons.1 hm with h1 |h1
  ·cases h1
  ·exact iD h.2 h1
 |(a,.rf f')::l,h,g,f,hm=>by
  simp only[cN,zq3]at h
  rcases List.mem_cons.1 hm with h1 |h1
  ·cases h1
  ·exact iD h.2 h1
 |[],_,_,_,hm=>by cases hm
theorem ge {P:Program} {ty:TypeId→Option Vk}:∀ {l:List (Nat×Entry)},cN P ty l=true→∀ {g f e n},(g,Entry.wr f e n)∈l→chkFunW P ty g f e n=true
 |(a,.code b)::l,h,g,f,e,n,hm=>by
  simp only[cN,zq3]at h
  rcases List.mem_cons.1 hm with h1 |h1
  ·cases h1
  ·exact ge h.2 h1
 |(a,.spec s b)::l,h,g,f,e,n,hm=>by
  simp only[cN]at h
  rcases List.mem_cons.1 hm with h1 |h1
  ·cases h1
  ·exact ge h h1
 |(a,.wr f' e' n')::l,h,g,f,e,n,hm=>by
  simp only[cN,zq3]at h
  rcases List.mem_cons.1 hm with h1 |h1
  ·cases h1;exact h.1
  ·exact ge h.2 h1
 |(a,.rf f')::l,h,g,f,e,n,hm=>by
  simp only[cN,zq3]at h
  rcases List.mem_cons.1 hm with h1 |h1
  ·cases h1
  ·exact ge h.2 h1
 |[],_,_,_,_,_,hm=>by cases hm
theorem gf {P:Program} {ty:TypeId→Option Vk}:∀ {l:List (Nat×Entry)},cN P ty l=true→∀ {g f},(g,Entry.rf f)∈l→chkFunRf P ty g f=true
 |(a,.code b)::l,h,g,f,hm=>by
  simp only[cN,zq3]at h
  rcases List.mem_cons.1 hm with h1 |h1
  ·cases h1
  ·exact gf h.2 h1
 |(a,.spec s b)::l,h,g,f,hm=>by
  simp only[cN]at h
  rcases List.mem_cons.1 hm with h1 |h1
  ·cases h1
  ·exact gf h h1
 |(a,.wr f' e' n')::l,h,g,f,hm=>by
  simp only[cN,zq3]at h
  rcases List.mem_cons.1 hm with h1 |h1
  ·cases h1
  ·exact gf h.2 h1
 |(a,.rf f')::l,h,g,f,hm=>by
  simp only[cN,zq3]at h
  rcases List.mem_cons.1 hm with h1 |h1
  ·cases h1;exact h.1
  ·exact gf h.2 h1
 |[],_,_,_,hm=>by cases hm
end
section
def BodyOk (P:Program) (ty:TypeId→Option Vk) (g:FuncId) (s:BK):Prop:=
 ∃ fn,P.funcs[g]? =some fn∧(fn.name== "runtime.NumGoroutine")=false∧fn.body.isNone=false∧∀ (i:Nat) (e:TypeId),s.am[i]? =some (.g e)→(ty e).isSome=true
def mb (P:Program) (ty:TypeId→Option Vk):List (Nat×Entry)→Prop
 |[]=>True
 |(_,.code _)::l=>mb P ty l
 |(_,.wr _ _ _)::l=>mb P ty l
 |(_,.rf _)::l=>mb P ty l
 |(g,.spec s f)::l=>(SoundAt P ty g s f∧BodyOk P ty g s)∧mb P ty l
theorem eN {P:Program} {ty:TypeId→Option Vk}:∀ {l:List (Nat×Entry)},mb P ty l→∀ {g s f},(g,Entry.spec s f)∈l→SoundAt P ty g s f∧BodyOk P ty g s
 |(a,.code b)::l,h,g,s,f,hm=>by
  rcases List.mem_cons.1 hm with h1 |h1
  ·cases h1
  ·exact eN (l:=l) h h1
 |(a,.rf b)::l,h,g,s,f,hm=>by
  rcases List.mem_cons.1 hm with h1 |h1
  ·cases h1
  ·exact eN (l:=l) h h1
 |(a,.wr b e n)::l,h,g,s,f,hm=>by
  rcases List.mem_cons.1 hm with h1 |h1
  ·cases h1
  ·exact eN (l:=l) h h1
 |(a,.spec s' b)::l,h,g,s,f,hm=>by
  rcases List.mem_cons.1 hm with h1 |h1
  ·cases h1;exact h.1
  ·exact eN h.2 h1
 |[],_,_,_,_,hm=>by cases hm
theorem yF {P:Program} {tyL:List (Nat×Vk)} {tabL:List (Nat×Entry)} (h1:zw P tyL=true) (h2:P.follows .mixedOrders=true) (h3:cN P (fun e=>tyL.lookup e) tabL=true)
  (h4:mb P (fun e=>tyL.lookup e) tabL):TabOk P (fun e=>tyL.lookup e) (fun g=>tabL.lookup g) where
 T:=fun e k he=>tM h1 (dN he)
 mx:=h2
 code:=fun g f hg=>iD h3 (dN hg)
 wr:=fun g f e n hg=>ge h3 (dN hg)
 rf:=fun g f hg=>gf h3 (dN hg)
 spec:=fun g s sf hg=>(eN h4 (dN hg)).1
 body:=fun g s sf hg=>(eN h4 (dN hg)).2
def eK (ty:TypeId→Option Vk) (w:World) (ok:Nat→Prop) (K:Nat) (els:List D) (vs:List Value):Prop:=
 vs.length=els.length*K∧∀ i j,i<els.length→j<K→RepV ty w ok (vs.getD (i*K+j) undef) ((els.getD i .undef).cell j)
section
variable {ty:TypeId→Option Vk} {w:World} {ok:Nat→Prop} {K:Nat}
theorem eK.append {a b:List D} {x y:List Value} (h1:eK ty w ok K a x) (h2:eK ty w ok K b y):eK ty w ok K (a++b) (x++y):=by
 refine⟨by rw[List.length_append,List.length_append,h1.1,h2.1,Nat.add_mul],fun i j hi hj=> ?_⟩
 rw[List.length_append]at hi
 by_cases h:i<a.length
 ·have:=h1.2 i j h hj
  have hx:i*K+j<x.length:=by rw[h1.1];exact idx_lt h hj (Nat.le_refl _)
  rw[zq1,List.getElem?_append_left hx,←zq1]
  rw[zq1 (l:=a++b),List.getElem?_append_left h,←zq1]
  exact this
 ·have h3:a.length≤i:=Nat.le_of_not_lt h
  have:=h2.2 (i - a.length) j (by omega) hj
  have hx:x.length≤i*K+j:=by
   rw[h1.1]
   have:a.length*K≤i*K:=Nat.mul_le_mul_right _ h3
   omega
  have e:i*K+j - x.length=(i - a.length)*K+j:=by
   rw[h1.1,Nat.sub_mul]
   have:a.length*K≤i*K:=Nat.mul_le_mul_right _ h3
   omega
  rw[zq1,List.getElem?_append_right hx,e,←zq1]
  rw[zq1 (l:=a++b),List.getElem?_append_right h3,←zq1]
  exact this
theorem eK.take {a:List D} {x:List Value} (h:eK ty w ok K a x) (n:Nat) (hn:n≤a.length):eK ty w ok K (a.take n) (x.take (n*K)):=by
 have hm:n*K≤a.length*K:=Nat.mul_le_mul_right _ hn
 have hl:(a.take n).length=n:=by simp;omega
 refine⟨by rw[hl,List.length_take,h.1];omega,fun i j hi hj=> ?_⟩
 rw[hl]at hi
 have:=h.2 i j (by omega) hj
 have hlt:i*K+j<n*K:=idx_lt hi hj (Nat.le_refl _)
 rw[zq1,List.getElem?_take_of_lt hlt,←zq1,zq1 (l:=a.take n),List.getElem?_take_of_lt hi,←zq1]
 exact this
theorem eK.drop {a:List D} {x:List Value} (h:eK ty w ok K a x) (n:Nat) (hn:n≤a.length):eK ty w ok K (a.drop n) (x.drop (n*K)):=by
 have hm:n*K≤a.length*K:=Nat.mul_le_mul_right _ hn
 have hl:(a.drop n).length=a.length - n:=by simp
 refine⟨by rw[hl,List.length_drop,h.1,Nat.sub_mul],fun i j hi hj=> ?_⟩
 rw[hl]at hi
 have:=h.2 (n+i) j (by omega) hj
 rw[zq1,List.getElem?_drop,show n*K+(i*K+j)=(n+i)*K+j by rw[Nat.add_mul];omega,←zq1,zq1 (l:=a.drop n),List.getElem?_drop,←zq1]
 exact this
theorem eK.one {k:Vk} {a:List D} {x:List Value} (h:eK ty w ok k.ks.length a x) (hf:∀ d,d∈a→k.fits d=true):∀ u,u∈x→u.oneCell'=true:=by
 intro u hu
 obtain⟨p,hp,rfl⟩:=List.getElem_of_mem hu
 have yd:=hp
 rw[h.1]at yd
 have hpos:0<k.ks.length:=by
  rcases Nat.eq_zero_or_pos k.ks.length with h0 |h0
  ·rw[h0]at yd;simp at yd
  ·exact h0
 have hi:p/k.ks.length<a.length:=Nat.div_lt_of_lt_mul (by rw[Nat.mul_comm];exact yd)
 have hj:=Nat.mod_lt p hpos
 have:=h.2 _ _ hi hj
 rw[Nat.mul_comm (p/k.ks.length),Nat.div_add_mod,zq1,zq4 hp]at this
 exact ld (C:=⟨ty,fun _=>False,w,fun _=>False,(0,undef)⟩) this (Vk.cg (hf _ (mem_getD hi)) _ k.ks[p % k.ks.length] (zq4 hj))
theorem eK.mono {w':World} {sK:Nat→Prop} {a:List D} {x:List Value} (h:eK ty w ok K a x) (hok:∀ b,ok b→sK b) (hs:Same ok w w'):eK ty w' sK K a x:=
 ⟨h.1,fun i j hi hj=>(h.2 i j hi hj).mono hok hs⟩
end
end
section
structure Ec (E E':Env):Prop where
 ty:E'.ty=E.ty
 sig:E'.sig=E.sig
 wty:E'.wty=E.wty
 yld:(E.yld=none∧E'.yld=none)∨∃ e f f',E.yld=some (e,f)∧E'.yld=some (e,f')∧∀ l r,f l=some r→f' l=some r
 call:∀ g l r,E.call g l=some r→E'.call g l=some r
theorem Ec.refl (E:Env):Ec E E:=⟨rfl,rfl,rfl,by
 cases h:E.yld with
 |none=>exact .inl ⟨rfl,rfl⟩
 |some p=>exact .inr ⟨p.1,p.2,p.2,rfl,rfl,fun _ _ x=>x⟩,fun _ _ _ x=>x⟩
theorem Ec.on {E E':Env} (h:Ec E E') {e:TypeId} {f f':List D→Option (List D)} (hf:∀ l r,f l=some r→f' l=some r):Ec {E with yld:=some (e,f)} {E' with yld:=some (e,f')}:=
 ⟨h.ty,h.sig,h.wty,.inr ⟨e,f,f',rfl,rfl,hf⟩,h.call⟩
section
variable {E E':Env} (h:Ec E E')
include h
theorem zQ:oK E'=oK E:=by funext e off k;simp only[oK,h.ty]
theorem CR:ny E'=ny E:=by funext e lo n k;simp only[ny,h.ty]
theorem tN:eJ E'=eJ E:=by funext os e d;cases d<;>simp only[eJ,h.ty]
theorem F4 (sg:BK):sJ E' sg=sJ E sg:=by
 have e1:jq E'=jq E:=by funext r;cases r<;>simp only[jq,h.ty]
 have e2:pC E'=pC E:=by funext r;cases r<;>simp only[pC,h.ty]
 simp only[sJ,e1,e2]
theorem Bi {op:vN} {l:List D} {os:Vw} {p:D×Wr} (he:cl KS E op l os=some p):cl KS E' op l os=some p:=by
 cases op with
 |call ss=>
  simp only[cl]at he⊢
  unfold pD at he⊢
  split at he
  ·rename_i g caps args
   rw[h.sig]
   split at he
   ·cases he
   ·rename_i sg K4
    try simp only[K4]
    split at he
    ·cases he
    ·rename_i l1 hl1
     try simp only[hl1]
     split at he
     ·rename_i hb
      try simp only[hb]
      simp only[Option.bind_eq_some_iff]at he⊢
      obtain⟨rs,h1,h2⟩:=he
      exact⟨rs,h.call _ _ _ h1,by rw[F4 h];exact h2⟩
     ·cases he
  ·cases he
 |ku s r0=>
  simp only[cl]at he⊢
  unfold kZ at he⊢
  split at he
  ·rename_i g o a x
   rw[h.wty]
   split at he
   ·rename_i e c g' o' a' hw1 hw2 K5
    try simp only[hw1,hw2,K5]
    split at he
    ·rename_i hc
     try simp only[hc]
     split at he
     ·rename_i nb els ws hri
      try simp only[hri]
      simp only[Option.bind_eq_some_iff]at he⊢
      obtain⟨rs,h1,h2⟩:=he
      exact⟨rs,h.call _ _ _ h1,h2⟩
     ·cases he
    ·cases he
   ·cases he
  ·cases he
 |yld s r0=>
  simp only[cl]at he⊢
  unfold vT at he⊢
  split at he
  ·rename_i o x
   rcases h.yld with⟨y1,y2⟩ |⟨e,f,f',y1,y2,y3⟩
   ·rw[y1]at he;simp at he
   ·rw[y1]at he
    rw[y2]
    split at he
    ·rename_i e' f0 c hw1 hw2
     cases hw1
     try simp only[hw2]
     split at he
     ·rename_i hc
      try simp only[hc]
      split at he
      ·rename_i nb els ws hri
       try simp only[hri]
       simp only[Option.bind_eq_some_iff]at he⊢
       obtain⟨rs,h1,h2⟩:=he
       exact⟨rs,y3 _ _ h1,h2⟩
      ·cases he
     ·cases he
    ·cases he
  ·cases he
 |load k=>simp only[cl,gW,zQ h,CR h]at he⊢;exact he
 |store k=>simp only[cl,kX,fc,zQ h,h.ty]at he⊢;exact he
 |append s e b=>simp only[cl,i_,tN h]at he⊢;exact he
 |copy e=>simp only[cl,ti,tN h]at he⊢;exact he
 |bn s e=>simp only[cl,h.ty]at he⊢;exact he
 |mZ e n=>simp only[cl,lW,h.ty]at he⊢;exact he
 |bytes e=>simp only[cl,h.ty]at he⊢;exact he
 |qH e=>simp only[cl,oN,h.ty]at he⊢;exact he
 |_=>exact he
theorem wK {o:DOper} {st:St} {p:St×Lg} (he:xN E o st=some p):xN E' o st=some p:=by
 unfold xN BX at he⊢
 simp only at he⊢
 split at he
 ·rename_i hs
  try simp only[hs]
  rw[gd]at he⊢
  simp only[aY,Option.bind_eq_some_iff]at he⊢
  obtain⟨q,h1,h2⟩:=he
  exact⟨q,Bi h h1,h2⟩
 ·cases he
theorem yG {o:DOper} {st:St} {p:St×Lg} (he:stepS E o st=some p):stepS E' o st=some p:=by
 unfold stepS ja at he⊢
 split at he
 ·rename_i hg
  try simp only[hg]
  exact wK h he
 ·rename_i g us hg
  try simp only[hg]
  split at he
  ·rename_i b hb
   try simp only[hb]
   cases us<;>cases b<;>simp only at he⊢ <;>first |exact wK h he |exact he
  ·rename_i hb
   try simp only[hb]
   exact he
  ·cases he
theorem tP:∀ {ds:List DOper} {st:St} {p:St×List Lg},opsS E ds st=some p→opsS E' ds st=some p
 |[],st,p,he=>he
 |o::ds,st,p,he=>by
  unfold opsS opsK at he⊢
  rw[ip]at he⊢
  simp only[Option.bind_eq_some_iff]at he⊢
  obtain⟨q,h1,h2⟩:=he
  refine⟨q,yG h h1, ?_⟩
  rw[opsK_nat]at h2⊢
  simp only[Option.bind_eq_some_iff]at h2⊢
  obtain⟨q2,h3,h4⟩:=h2
  exact⟨q2,tP h3,h4⟩
theorem cY {R:Type} {k k':Nat} (hk:k≤k'):∀ (c:DCode) (st:St) (K K':Ex→St→Option R) (r:R),(∀ ex st r,K ex st=some r→K' ex st=some r)→codeK E k c st K=some r→codeK E' k' c st K'=some r:=by
 intro c
 induction c with
 |skip=>intro st K K' r hK he;exact hK _ _ _ he
 |exit id=>intro st K K' r hK he;exact hK _ _ _ he
 |ret=>intro st K K' r hK he;exact hK _ _ _ he
 |bad=>intro st K K' r hK he;cases he
 |region draw ops=>
  intro st K K' r hK he
  unfold codeK at he⊢
  rw[opsK_nat]at he⊢
  simp only[Option.bind_eq_some_iff]at he⊢
  obtain⟨q,h1,h2⟩:=he
  refine⟨q,tP h h1, ?_⟩
  cases draw with
  |false=>exact hK _ _ _ h2
  |true=>
   simp only at h2⊢
   split at h2
   ·rename_i hd;try simp only[hd]
    exact hK _ _ _ h2
   ·cases h2
 |seq a b F5 F6=>
  intro st K K' r hK he
  unfold codeK at he⊢
  refine F5 st _ _ r ?_ he
  intro ex st r he
  cases ex with
  |norm=>exact F6 _ _ _ _ hK he
  |exit id=>exact hK _ _ _ he
  |ret=>exact hK _ _ _ he
 |cond c a b F5 F6=>
  intro st K K' r hK he
  unfold codeK at he⊢
  split at he
  ·rename_i t ht
   try simp only[ht]
   cases t with
   |true=>exact F5 _ _ _ _ hK he
   |false=>exact F6 _ _ _ _ hK he
  ·cases he
 |block id c ih=>
  intro st K K' r hK he
  unfold codeK at he⊢
  refine ih st _ _ r ?_ he
  intro ex st r he
  cases ex with
  |norm=>exact hK _ _ _ he
  |ret=>exact hK _ _ _ he
  |exit id'=>
   simp only at he⊢
   split at he
   ·rename_i hd;try simp only[hd]
    exact hK _ _ _ he
   ·rename_i hd;try simp only[hd]
    exact hK _ _ _ he
 |loop sh c ih=>
  intro st K K' r hK he
  unfold codeK at he⊢
  split at he
  ·rename_i vs hvs
   try simp only[hvs]
   clear hvs
   revert he
   suffices key:∀ (n n':Nat),n≤n'→∀ vs r,iter n (fun vs again=>codeK E k c (unpack sh st vs) fun ex st'=>match ex with
     | .norm=>match pack sh st' with |some vs'=>again vs' |none=>none
     |ex=>K ex st') vs=some r→iter n' (fun vs again=>codeK E' k' c (unpack sh st vs) fun ex st'=>match ex with
     | .norm=>match pack sh st' with |some vs'=>again vs' |none=>none
     |ex=>K' ex st') vs=some r from key k k' hk vs r
   intro n
   induction n with
   |zero=>intro n' _ vs r he;cases he
   |succ n Mq=>
    intro n' hn vs r he
    obtain⟨m,rfl⟩:∃ m,n'=m+1:=⟨n' - 1,by omega⟩
    unfold iter at he⊢
    refine ih _ _ _ r ?_ he
    intro ex st' r' he
    cases ex with
    |norm=>
     simp only at he⊢
     split at he
     ·rename_i vs' hv
      exact Mq m (by omega) vs' r' he
     ·cases he
    |exit id=>exact hK _ _ _ he
    |ret=>exact hK _ _ _ he
  ·cases he
theorem wL {k k':Nat} (hk:k≤k') {b:RBody} {e:TypeId} {l r:List D} (he:dround b e E k l=some r):dround b e E' k' l=some r:=by
 unfold dround at he⊢
 split at he
 ·rename_i x e' nb els
  split at he
  ·rename_i hc
   try simp only[hc]
   unfold droundK at he⊢
   refine cY h hk _ _ _ _ _ ?_ he
   intro ex st r he
   cases ex with
   |norm=>
    refine cY h hk _ _ _ _ _ ?_ he
    intro ex st r he
    cases ex<;>exact he
   |_=>exact he
  ·cases he
 ·cases he
theorem yH {k k':Nat} (hk:k≤k') {f:DFun} {e:TypeId} {caps:List D} {nb:Bool} {els r:List D} (he:diter f e E k caps nb els=some r):diter f e E' k' caps nb els=some r:=by
 unfold diter at he⊢
 split at he
 ·rename_i hc
  try simp only[hc]
  refine cY h hk _ _ _ _ _ ?_ he
  intro ex st r he
  cases ex<;>exact he
 ·cases he
theorem Bj {k k':Nat} (hk:k≤k') {f:RfFun} {st:St} {r:List D} (he:rfGo f E k st=some r):rfGo f E' k' st=some r:=by
 unfold rfGo at he⊢
 split at he
 case h_2=>cases he
 rename_i g caps oid h1 h2
 try simp only[h1,h2]
 split at he
 case h_2=>cases he
 rename_i c h3 h4 h5
 try simp only[h3,h4,h5]
 split at he
 case h_2=>cases he
 rename_i nb els ws h6
 try simp only[h6]
 split at he
 case h_2=>cases he
 rename_i e' nb' els' h7
 have h8:=yH (h.on (e:=f.e) (f:=dround f.bd f.e E k) (f':=dround f.bd f.e E' k') (fun l r hl=>wL h hk hl)) hk h7
 simp only[h8]
 refine cY h hk _ _ _ _ _ ?_ he
 intro ex st r he
 exact he
theorem rr {k k':Nat} (hk:k≤k') {f:RfFun}:∀ (ds:List DCode) {st:St} {r:List D},rfPre f E k ds st=some r→rfPre f E' k' ds st=some r
 |[],st,r,he=>by
  unfold rfPre at he⊢
  refine cY h hk _ _ _ _ _ ?_ he
  intro ex st r he
  cases ex with
  |norm=>exact Bj h hk he
  |_=>exact he
 |d::ds,st,r,he=>by
  unfold rfPre at he⊢
  refine cY h hk _ _ _ _ _ ?_ he
  intro ex st r he
  cases ex with
  |norm=>exact rr hk ds he
  |_=>exact he
theorem wM {k k':Nat} (hk:k≤k') {f:RfFun} {l r:List D} (he:drf f E k l=some r):drf f E' k' l=some r:=by
 unfold drf at he⊢
 split at he
 ·rename_i st hs
  try simp only[hs]
  exact rr h hk _ he
 ·cases he
theorem pS {k k':Nat} (hk:k≤k') {f:DFun} {g:FuncId} {e:TypeId} {n:Nat} {l r:List D} (he:dbodyW f g e n E k l=some r):dbodyW f g e n E' k' l=some r:=by
 unfold dbodyW at he⊢
 split at he
 ·rename_i st hst
  try simp only[hst]
  refine cY h hk _ _ _ _ _ ?_ he
  intro ex st r he
  cases ex<;>exact he
 ·cases he
theorem ni {k k':Nat} (hk:k≤k') {f:DFun} {l r:List D} (he:dbody f E k l=some r):dbody f E' k' l=some r:=by
 unfold dbody at he⊢
 split at he
 ·refine cY h hk _ _ _ _ _ ?_ he
  intro ex st r he
  cases ex<;>exact he
 ·cases he
end
section
variable {ty:TypeId→Option Vk} {tab:FuncId→Option Entry}
theorem iq {C C':FuncId→List D→Option (List D)} (h:∀ g l r,C g l=some r→C' g l=some r):Ec (envOf ty tab C) (envOf ty tab C'):=⟨rfl,rfl,rfl,.inl ⟨rfl,rfl⟩,h⟩
theorem cZ:∀ {k k':Nat},k≤k'→∀ {g:FuncId} {l r:List D},dcall ty tab k g l=some r→dcall ty tab k' g l=some r
 |0,_,_,g,l,r,he=>by cases he
 |k+1,k',hk,g,l,r,he=>by
  obtain⟨m,rfl⟩:∃ m,k'=m+1:=⟨k' - 1,by omega⟩
  unfold dcall at he⊢
  split at he
  ·exact ni (iq fun g l r h=>cZ (by omega) h) (by omega) he
  ·exact he
  ·exact pS (iq fun g l r h=>cZ (by omega) h) (by omega) he
  ·exact wM (iq fun g l r h=>cZ (by omega) h) (by omega) he
  ·cases he
def Ev (ty:TypeId→Option Vk) (tab:FuncId→Option Entry) (g:FuncId) (l r:List D):Prop:=∃ k,dcall ty tab k g l=some r
theorem Ev.of {g:FuncId} {l r:List D} {f:DFun} (hg:tab g=some (.code f)) (C:FuncId→List D→Option (List D)) (k:Nat) (hC:∀ g l r,C g l=some r→∃ k,∀ k',k≤k'→dcall ty tab k' g l=some r)
  (hfin:∃ K,∀ g l r,C g l=some r→dcall ty tab K g l=some r) (he:dbody f (envOf ty tab C) k l=some r):Ev ty tab g l r:=by
 obtain⟨K,hK⟩:=hfin
 refine⟨max K k+1, ?_⟩
 unfold dcall
 rw[hg]
 exact ni (iq fun g l r h=>cZ (by omega) (hK g l r h)) (by omega) he
end
end
section
structure rt (E:Env) (F:Nat→Env):Prop where
 ty:∀ n,(F n).ty=E.ty
 sig:∀ n,(F n).sig=E.sig
 wty:∀ n,(F n).wty=E.wty
 yld:(E.yld=none∧∀ n,(F n).yld=none)∨∃ (e:TypeId) (f:List D→Option (List D)) (f':Nat→List D→Option (List D)),E.yld=some (e,f)∧(∀ n,(F n).yld=some (e,f' n))∧∀ l r,f l=some r→∃ N,∀ n,N≤n→f' n l=some r
 call:∀ g l r,E.call g l=some r→∃ N,∀ n,N≤n→(F n).call g l=some r
theorem tQ {R:Type} {G:List D→(List D→Option R)→Option R} (hG:∀ (a a':List D→Option R),(∀ vs r,a vs=some r→a' vs=some r)→∀ vs r,G vs a=some r→G vs a'=some r):
  ∀ {m m':Nat},m≤m'→∀ {vs:List D} {r:R},iter m G vs=some r→iter m' G vs=some r
 |0,_,_,_,_,he=>by cases he
 |m+1,m',hm,vs,r,he=>by
  obtain⟨n,rfl⟩:∃ n,m'=n+1:=⟨m' - 1,by omega⟩
  unfold iter at he⊢
  exact hG _ _ (fun vs r=>tQ hG (by omega)) vs r he
section
variable {E:Env} {F:Nat→Env} (h:rt E F)
include h
theorem wN (n:Nat):oK (F n)=oK E:=by funext e off k;simp only[oK,h.ty]
theorem Bk (m:Nat):ny (F m)=ny E:=by funext e lo n k;simp only[ny,h.ty]
theorem ru (n:Nat):eJ (F n)=eJ E:=by funext os e d;cases d<;>simp only[eJ,h.ty]
theorem Ed (n:Nat) (sg:BK):sJ (F n) sg=sJ E sg:=by
 have e1:jq (F n)=jq E:=by funext r;cases r<;>simp only[jq,h.ty]
 have e2:pC (F n)=pC E:=by funext r;cases r<;>simp only[pC,h.ty]
 simp only[sJ,e1,e2]
theorem CS {op:vN} {l:List D} {os:Vw} {p:D×Wr} (he:cl KS E op l os=some p):∃ N,∀ n,N≤n→cl KS (F n) op l os=some p:=by
 cases op with
 |call ss=>
  simp only[cl]at he⊢
  unfold pD at he⊢
  split at he
  ·rename_i g caps args
   simp only[h.sig]
   split at he
   ·cases he
   ·rename_i sg K4
    split at he
    ·cases he
    ·rename_i l1 hl1
     split at he
     ·rename_i hb
      simp only[Option.bind_eq_some_iff]at he
      obtain⟨rs,h1,h2⟩:=he
      obtain⟨N,hN⟩:=h.call _ _ _ h1
      refine⟨N,fun n hn=> ?_⟩
      simp only[hN n hn,Option.bind_some,Ed h]
      exact h2
     ·cases he
  ·cases he
 |ku s r0=>
  simp only[cl]at he⊢
  unfold kZ at he⊢
  split at he
  ·rename_i g o a x
   simp only[h.wty]
   split at he
   ·rename_i e c g' o' a' hw1 hw2 K5
    split at he
    ·rename_i hc
     split at he
     ·rename_i nb els ws hri
      simp only[Option.bind_eq_some_iff]at he
      obtain⟨rs,h1,h2⟩:=he
      obtain⟨N,hN⟩:=h.call _ _ _ h1
      refine⟨N,fun n hn=> ?_⟩
      simp only[hN n hn,Option.bind_some]
      exact h2
     ·cases he
    ·cases he
   ·cases he
  ·cases he
 |yld s r0=>
  simp only[cl]at he⊢
  unfold vT at he⊢
  split at he
  ·rename_i o x
   rcases h.yld with⟨y1,y2⟩ |⟨e,f,f',y1,y2,y3⟩
   ·rw[y1]at he;simp at he
   ·rw[y1]at he
    split at he
    ·rename_i e' f0 c hw1 hw2
     cases hw1
     split at he
     ·rename_i hc
      split at he
      ·rename_i nb els ws hri
       simp only[Option.bind_eq_some_iff]at he
       obtain⟨rs,h1,h2⟩:=he
       obtain⟨N,hN⟩:=y3 _ _ h1
       refine⟨N,fun n hn=> ?_⟩
       simp only[y2,hw2,hc,hri,hN n hn,Option.bind_some]
       exact h2
      ·cases he
     ·cases he
    ·cases he
  ·cases he
 |load k=>exact⟨0,fun n _=>by simp only[cl,gW,wN h,Bk h]at he⊢;exact he⟩
 |store k=>exact⟨0,fun n _=>by simp only[cl,kX,fc,wN h,h.ty]at he⊢;exact he⟩
 |append s e b=>exact⟨0,fun n _=>by simp only[cl,i_,ru h]at he⊢;exact he⟩
 |copy e=>exact⟨0,fun n _=>by simp only[cl,ti,ru h]at he⊢;exact he⟩
 |bn s e=>exact⟨0,fun n _=>by simp only[cl,h.ty]at he⊢;exact he⟩
 |mZ e q=>exact⟨0,fun n _=>by simp only[cl,lW,h.ty]at he⊢;exact he⟩
 |bytes e=>exact⟨0,fun n _=>by simp only[cl,h.ty]at he⊢;exact he⟩
 |qH e=>exact⟨0,fun n _=>by simp only[cl,oN,h.ty]at he⊢;exact he⟩
 |_=>exact⟨0,fun n _=>he⟩
theorem zR {o:DOper} {st:St} {p:St×Lg} (he:xN E o st=some p):∃ N,∀ n,N≤n→xN (F n) o st=some p:=by
 unfold xN BX at he⊢
 simp only at he⊢
 split at he
 ·rename_i hs
  rw[gd]at he
  simp only[aY,Option.bind_eq_some_iff]at he
  obtain⟨q,h1,h2⟩:=he
  obtain⟨N,hN⟩:=CS h h1
  refine⟨N,fun n hn=> ?_⟩
  rw[gd]
  simp only[aY,Option.bind_eq_some_iff]
  exact⟨q,hN n hn,h2⟩
 ·cases he
theorem Bl {o:DOper} {st:St} {p:St×Lg} (he:stepS E o st=some p):∃ N,∀ n,N≤n→stepS (F n) o st=some p:=by
 unfold stepS ja at he⊢
 split at he
 ·rename_i hg
  exact zR h he
 ·rename_i g us hg
  split at he
  ·rename_i b hb
   cases us<;>cases b<;>simp only at he⊢ <;>first |exact zR h he |exact⟨0,fun _ _=>he⟩
  ·exact⟨0,fun _ _=>he⟩
  ·cases he
theorem wO:∀ {ds:List DOper} {st:St} {p:St×List Lg},opsS E ds st=some p→∃ N,∀ n,N≤n→opsS (F n) ds st=some p
 |[],st,p,he=>⟨0,fun _ _=>he⟩
 |o::ds,st,p,he=>by
  unfold opsS opsK at he
  rw[ip]at he
  simp only[Option.bind_eq_some_iff]at he
  obtain⟨q,h1,h2⟩:=he
  rw[opsK_nat]at h2
  simp only[Option.bind_eq_some_iff]at h2
  obtain⟨q2,h3,h4⟩:=h2
  obtain⟨N1,g1⟩:=Bl h h1
  obtain⟨N2,g2⟩:=wO h3
  refine⟨max N1 N2,fun n hn=> ?_⟩
  unfold opsS opsK
  rw[ip]
  simp only[Option.bind_eq_some_iff]
  refine⟨q,g1 n (by omega), ?_⟩
  rw[opsK_nat]
  simp only[Option.bind_eq_some_iff]
  exact⟨q2,g2 n (by omega),h4⟩
theorem eO {R:Type} {k:Nat}:∀ (c:DCode) (st:St) (K:Ex→St→Option R) (K':Nat→Ex→St→Option R) (r:R),(∀ ex st r,K ex st=some r→∃ N,∀ n,N≤n→K' n ex st=some r)→codeK E k c st K=some r→
  ∃ N,∀ n,N≤n→codeK (F n) n c st (K' n)=some r:=by
 intro c
 induction c with
 |skip=>intro st K K' r hK he;exact hK _ _ _ he
 |exit id=>intro st K K' r hK he;exact hK _ _ _ he
 |ret=>intro st K K' r hK he;exact hK _ _ _ he
 |bad=>intro st K K' r hK he;cases he
 |region draw ops=>
  intro st K K' r hK he
  unfold codeK at he
  rw[opsK_nat]at he
  simp only[Option.bind_eq_some_iff]at he
  obtain⟨q,h1,h2⟩:=he
  obtain⟨N1,g1⟩:=wO h h1
  have key:∃ N,∀ n,N≤n→(match draw with
   |false=>K' n .norm q.1
   |true=>match qN ops q.2 with |true=>K' n .norm q.1 |false=>none)=some r:=by
   cases draw with
   |false=>exact hK _ _ _ h2
   |true=>
    simp only at h2⊢
    split at h2
    ·rename_i hd;simpa only[hd]using hK _ _ _ h2
    ·cases h2
  obtain⟨N2,g2⟩:=key
  refine⟨max N1 N2,fun n hn=> ?_⟩
  unfold codeK
  rw[opsK_nat]
  simp only[Option.bind_eq_some_iff]
  exact⟨q,g1 n (by omega),g2 n (by omega)⟩
 |seq a b F5 F6=>
  intro st K K' r hK he
  unfold codeK at he⊢
  refine F5 st _ (fun n ex st'=>match ex with
   | .norm=>codeK (F n) n b st' (K' n)
   |ex=>K' n ex st') r ?_ he
  intro ex st r he
  cases ex with
  |norm=>exact F6 _ _ _ _ hK he
  |exit id=>exact hK _ _ _ he
  |ret=>exact hK _ _ _ he
 |cond c a b F5 F6=>
  intro st K K' r hK he
  unfold codeK at he⊢
  split at he
  ·rename_i t ht
   cases t with
   |true=>exact F5 _ _ _ _ hK he
   |false=>exact F6 _ _ _ _ hK he
  ·cases he
 |block id c ih=>
  intro st K K' r hK he
  unfold codeK at he⊢
  refine ih st _ (fun n ex st'=>match ex with
   | .exit id'=>match Nat.beq id' id with |true=>K' n .norm st' |false=>K' n (.exit id') st'
   |ex=>K' n ex st') r ?_ he
  intro ex st r he
  cases ex with
  |norm=>exact hK _ _ _ he
  |ret=>exact hK _ _ _ he
  |exit id'=>
   simp only at he⊢
   split at he
   ·rename_i hd;simpa only[hd]using hK _ _ _ he
   ·rename_i hd;simpa only[hd]using hK _ _ _ he
 |loop sh c ih=>
  intro st K K' r hK he
  unfold codeK at he⊢
  split at he
  ·rename_i vs hvs
   clear hvs
   revert he
   let G (n:Nat) (vs:List D) (again:List D→Option R):Option R:=codeK (F n) n c (unpack sh st vs) fun ex st'=>match ex with
     | .norm=>match pack sh st' with |some vs'=>again vs' |none=>none
     |ex=>K' n ex st'
   have hG:∀ n (a a':List D→Option R),(∀ vs r,a vs=some r→a' vs=some r)→∀ vs r,G n vs a=some r→G n vs a'=some r:=by
    intro n a a' ha vs r he
    refine cY (E:=F n) (E':=F n) (Ec.refl _) (Nat.le_refl _) c _ _ _ r ?_ he
    intro ex st' r' he
    cases ex with
    |norm=>
     simp only at he⊢
     split at he
     ·exact ha _ _ he
     ·cases he
    |exit id=>exact he
    |ret=>exact he
   suffices key:∀ (m:Nat) vs r,iter m (fun vs again=>codeK E k c (unpack sh st vs) fun ex st'=>match ex with
     | .norm=>match pack sh st' with |some vs'=>again vs' |none=>none
     |ex=>K ex st') vs=some r→∃ N,∀ n,N≤n→iter m (G n) vs=some r by
    intro he
    obtain⟨N,hN⟩:=key k vs r he
    exact⟨max N k,fun n hn=>tQ (hG n) (by omega) (hN n (by omega))⟩
   intro m
   induction m with
   |zero=>intro vs r he;cases he
   |succ m Mr=>
    intro vs r he
    unfold iter at he
    exact ih _ _ (fun n ex st'=>match ex with
     | .norm=>match pack sh st' with
      |some vs'=>iter m (G n) vs'
      |none=>none
     |ex=>K' n ex st') r (by
      intro ex st' r' he
      cases ex with
      |norm=>
       simp only at he⊢
       split at he
       ·rename_i hv;simpa only[hv]using Mr _ _ he
       ·cases he
      |exit id=>exact hK _ _ _ he
      |ret=>exact hK _ _ _ he) he
  ·cases he
theorem yI {k:Nat} {b:RBody} {e:TypeId} {l r:List D} (he:dround b e E k l=some r):∃ N,∀ n,N≤n→dround b e (F n) n l=some r:=by
 unfold dround at he⊢
 split at he
 ·rename_i x e' nb els
  split at he
  ·rename_i hc
   try simp only[hc]
   unfold droundK at he⊢
   refine eO h _ _ _ (fun n ex st1=>match ex with
    | .norm=>codeK (F n) n b.body st1 fun ex st2=>match ex with
     | .norm=>finishR e st2
     |_=>none
    |_=>none) _ ?_ he
   intro ex st r he
   cases ex with
   |norm=>
    refine eO h _ _ _ (fun n ex st2=>match ex with
     | .norm=>finishR e st2
     |_=>none) _ ?_ he
    intro ex st r he
    cases ex<;>exact⟨0,fun _ _=>he⟩
   |_=>exact⟨0,fun _ _=>he⟩
  ·cases he
 ·cases he
theorem Bm {k:Nat} {f:DFun} {e:TypeId} {caps:List D} {nb:Bool} {els r:List D} (he:diter f e E k caps nb els=some r):∃ N,∀ n,N≤n→diter f e (F n) n caps nb els=some r:=by
 unfold diter at he⊢
 split at he
 ·rename_i hc
  try simp only[hc]
  refine eO h _ _ _ (fun n ex st'=>match ex with
   | .exit _=>none
   |_=>finishR e st') _ ?_ he
  intro ex st r he
  cases ex<;>exact⟨0,fun _ _=>he⟩
 ·cases he
end
section
variable {E:Env} {F:Nat→Env}
theorem rt.on (h:rt E F) {e:TypeId} {f:List D→Option (List D)} {f':Nat→List D→Option (List D)} (hf:∀ l r,f l=some r→∃ N,∀ n,N≤n→f' n l=some r):rt {E with yld:=some (e,f)} (fun n=>{F n with yld:=some (e,f' n)}):=
 ⟨h.ty,h.sig,h.wty,.inr ⟨e,f,f',rfl,fun _=>rfl,hf⟩,h.call⟩
theorem CT (h:rt E F) {k:Nat} {f:RfFun} {st:St} {r:List D} (he:rfGo f E k st=some r):∃ N,∀ n,N≤n→rfGo f (F n) n st=some r:=by
 unfold rfGo at he⊢
 split at he
 case h_2=>cases he
 rename_i g caps oid h1 h2
 try simp only[h1,h2]
 split at he
 case h_2=>cases he
 rename_i c h3 h4 h5
 try simp only[h3,h4,h5]
 split at he
 case h_2=>cases he
 rename_i nb els ws h6
 try simp only[h6]
 split at he
 case h_2=>cases he
 rename_i e' nb' els' h7
 obtain⟨N1,g1⟩:=Bm (h.on (e:=f.e) (f:=dround f.bd f.e E k) (f':=fun n=>dround f.bd f.e (F n) n) (fun l r hl=>yI h hl)) h7
 obtain⟨N2,g2⟩:=eO h _ _ _ (fun n=>rfEnd f) _ (fun ex st r he=>⟨0,fun _ _=>he⟩) he
 refine⟨max N1 N2,fun n hn=> ?_⟩
 have g3:=g1 n (by omega)
 simp only[g3]
 exact g2 n (by omega)
theorem tR (h:rt E F) {k:Nat} {f:RfFun}:∀ (ds:List DCode) {st:St} {r:List D},rfPre f E k ds st=some r→∃ N,∀ n,N≤n→rfPre f (F n) n ds st=some r
 |[],st,r,he=>by
  unfold rfPre at he⊢
  refine eO h _ _ _ (fun n ex st1=>match ex with
   | .norm=>rfGo f (F n) n st1
   |_=>none) _ ?_ he
  intro ex st r he
  cases ex with
  |norm=>exact CT h he
  |_=>exact⟨0,fun _ _=>he⟩
 |d::ds,st,r,he=>by
  unfold rfPre at he⊢
  refine eO h _ _ _ (fun n ex st1=>match ex with
   | .norm=>rfPre f (F n) n ds st1
   |ex=>rfEnd f ex st1) _ ?_ he
  intro ex st r he
  cases ex with
  |norm=>exact tR h ds he
  |_=>exact⟨0,fun _ _=>he⟩
theorem Ee (h:rt E F) {k:Nat} {f:RfFun} {l r:List D} (he:drf f E k l=some r):∃ N,∀ n,N≤n→drf f (F n) n l=some r:=by
 unfold drf at he⊢
 split at he
 ·rename_i st hs
  exact tR h _ he
 ·cases he
end
section
variable {E:Env} {F:Nat→Env} (h:rt E F)
include h
theorem yJ {k:Nat} {f:DFun} {g:FuncId} {e:TypeId} {n0:Nat} {l r:List D} (he:dbodyW f g e n0 E k l=some r):∃ N,∀ n,N≤n→dbodyW f g e n0 (F n) n l=some r:=by
 unfold dbodyW at he⊢
 split at he
 ·refine eO h _ _ _ (fun n ex st'=>match ex with
   | .exit _=>none
   |_=>finishW g e n0 st') _ ?_ he
  intro ex st r he
  cases ex<;>exact⟨0,fun _ _=>he⟩
 ·cases he
theorem Bn {k:Nat} {f:DFun} {l r:List D} (he:dbody f E k l=some r):∃ N,∀ n,N≤n→dbody f (F n) n l=some r:=by
 unfold dbody at he⊢
 split at he
 ·refine eO h _ _ _ (fun n ex st'=>match ex with
   | .exit _=>none
   |_=>finish f st') _ ?_ he
  intro ex st r he
  cases ex<;>exact⟨0,fun _ _=>he⟩
 ·cases he
end
section
variable (ty:TypeId→Option Vk) (tab:FuncId→Option Entry)
open Classical in
noncomputable def Cl (g:FuncId) (l:List D):Option (List D):=if h:∃ r,Ev ty tab g l r then some h.choose else none
variable {ty:TypeId→Option Vk} {tab:FuncId→Option Entry}
theorem Ev.F7 {g:FuncId} {l r r':List D} (h:Ev ty tab g l r) (h':Ev ty tab g l r'):r=r':=by
 obtain⟨k,hk⟩:=h
 obtain⟨k',hk'⟩:=h'
 have h1:=cZ (Nat.le_max_left k k') hk
 have h2:=cZ (Nat.le_max_right k k') hk'
 rw[h1]at h2
 exact Option.some.inj h2
theorem ln {g:FuncId} {l r:List D}:Cl ty tab g l=some r↔Ev ty tab g l r:=by
 unfold Cl
 constructor
 ·intro h
  split at h
  ·rename_i hx
   cases h
   exact hx.choose_spec
  ·cases h
 ·intro h
  rw[dif_pos ⟨r,h⟩]
  congr 1
  exact Ev.F7 (Exists.choose_spec (⟨r,h⟩:∃ r,Ev ty tab g l r)) h
theorem Ef {g:FuncId} {s:BK} {f:List D→Option (List D)} (hg:tab g=some (.spec s f)) (l:List D):Cl ty tab g l=f l:=by
 cases e:f l with
 |some r=>exact ln.2 ⟨1,by unfold dcall;rw[hg];exact e⟩
 |none=>
  cases e2:Cl ty tab g l with
  |none=>rfl
  |some r=>
   obtain⟨k,hk⟩:=ln.1 e2
   cases k with
   |zero=>cases hk
   |succ k=>
    unfold dcall at hk
    rw[hg]at hk
    change f l=some r at hk
    rw[e]at hk
    cases hk
theorem Ev.body {g:FuncId} {f:DFun} (hg:tab g=some (.code f)) {l r:List D} (k:Nat) (he:dbody f (envOf ty tab (Cl ty tab)) k l=some r):Ev ty tab g l r:=by
 have h:rt (envOf ty tab (Cl ty tab)) (fun n=>envOf ty tab (dcall ty tab n)):=⟨fun _=>rfl,fun _=>rfl,fun _=>rfl,.inl ⟨rfl,fun _=>rfl⟩,fun g l r hc=>by
  obtain⟨N,hN⟩:=ln.1 hc
  exact⟨N,fun n hn=>cZ hn hN⟩⟩
 obtain⟨N,hN⟩:=Bn h he
 refine⟨N+1, ?_⟩
 unfold dcall
 rw[hg]
 exact hN N (Nat.le_refl _)
theorem Ev.Fj {g:FuncId} {f:DFun} {e:TypeId} {n0:Nat} (hg:tab g=some (.wr f e n0)) {l r:List D} (k:Nat) (he:dbodyW f g e n0 (envOf ty tab (Cl ty tab)) k l=some r):Ev ty tab g l r:=by
 have h:rt (envOf ty tab (Cl ty tab)) (fun n=>envOf ty tab (dcall ty tab n)):=⟨fun _=>rfl,fun _=>rfl,fun _=>rfl,.inl ⟨rfl,fun _=>rfl⟩,fun g l r hc=>by
  obtain⟨N,hN⟩:=ln.1 hc
  exact⟨N,fun n hn=>cZ hn hN⟩⟩
 obtain⟨N,hN⟩:=yJ h he
 refine⟨N+1, ?_⟩
 unfold dcall
 rw[hg]
 exact hN N (Nat.le_refl _)
theorem Ev.Fk {g:FuncId} {f:RfFun} (hg:tab g=some (.rf f)) {l r:List D} (k:Nat) (he:drf f (envOf ty tab (Cl ty tab)) k l=some r):Ev ty tab g l r:=by
 have h:rt (envOf ty tab (Cl ty tab)) (fun n=>envOf ty tab (dcall ty tab n)):=⟨fun _=>rfl,fun _=>rfl,fun _=>rfl,.inl ⟨rfl,fun _=>rfl⟩,fun g l r hc=>by
  obtain⟨N,hN⟩:=ln.1 hc
  exact⟨N,fun n hn=>cZ hn hN⟩⟩
 obtain⟨N,hN⟩:=Ee h he
 refine⟨N+1, ?_⟩
 unfold dcall
 rw[hg]
 exact hN N (Nat.le_refl _)
theorem Ev.by {g:FuncId} {f:DFun} (hg:tab g=some (.code f)) {l r:List D} (C:FuncId→List D→Option (List D)) (hC:∀ g l r,C g l=some r→Ev ty tab g l r) (k:Nat) (he:dbody f (envOf ty tab C) k l=some r):Ev ty tab g l r:=
 Ev.body hg k (ni (iq fun g l r h=>ln.2 (hC g l r h)) (Nat.le_refl _) he)
end
end
section
def K6:IntKind→IntKind→Bool:=fun a b=>decide (a=b)
def qx:List UInt8→List UInt8→Bool
 |[],[]=>true
 |a::l,b::m=>Nat.beq a.toNat b.toNat&&qx l m
 |_,_=>false
theorem rB:∀ {a b:List UInt8},qx a b=true→a=b
 |[],[],_=>rfl
 |a::l,b::m,h=>by
  simp only[qx,zq3]at h
  rw[rB h.2,UInt8.toNat_inj.1 (Nat.eq_of_beq_eq_true h.1)]
 |[],_::_,h=>by cases h
 |_::_,[],h=>by cases h
def CU:Int→Int→Bool
 | .ofNat a,.ofNat b=>Nat.beq a b
 | .negSucc a,.negSucc b=>Nat.beq a b
 |_,_=>false
theorem CV {a b:Int} (h:CU a b=true):a=b:=by
 cases a<;>cases b<;>simp[CU]at h<;>subst h<;>rfl
def rC:Bool→Bool→Bool
 |true,true=>true
 |false,false=>true
 |_,_=>false
mutual
def JU (a:D) (b:D):Bool:=match a,b with
 | .undef,.undef=>true
 | .int k n,.int k' n'=>K6 k k'&&CU n n'
 | .bool b,.bool b'=>rC b b'
 | .str s,.str s'=>qx s.data.toList s'.data.toList
 | .sl e nb els,.sl e' nb' els'=>Nat.beq e e'&&rC nb nb'&&nj els els'
 | .zs e nb,.zs e' nb'=>Nat.beq e e'&&rC nb nb'
 | .agg cs,.agg cs'=>nj cs cs'
 | .fn g caps,.fn g' HP=>Nat.beq g g'&&nj caps HP
 | .nilfn,.nilfn=>true
 | .rp cs off,.rp cs' qR=>Nat.beq off qR&&nj cs cs'
 | .tup ds,.tup k_=>nj ds k_
 | .ov e nb els,.ov e' nb' els'=>Nat.beq e e'&&rC nb nb'&&nj els els'
 | .pv cs,.pv cs'=>nj cs cs'
 | .mpl cs ds,.mpl cs' k_=>nj cs cs'&&nj ds k_
 | .mpv cs ds,.mpv cs' k_=>nj cs cs'&&nj ds k_
 |_,_=>false
def nj (a:List D) (b:List D):Bool:=match a,b with
 |[],[]=>true
 |x::xs,y::ys=>JU x y&&nj xs ys
 |_,_=>false
end
theorem mc {a b:Bool} (h:rC a b=true):a=b:=by cases a<;>cases b<;>first |rfl |cases h
mutual
theorem F8 (a:D) (b:D) (h:JU a b=true):a=b:=by
 cases a<;>cases b<;>simp only[JU,zq3,Bool.false_eq_true]at h
 case undef.undef=>rfl
 case nilfn.nilfn=>rfl
 case int.int=>simp only[K6,decide_eq_true_eq]at h;rw[h.1,CV h.2]
 case bool.bool=>rw[mc h]
 case str.str s s'=>
  have:=rB h
  obtain⟨⟨l⟩⟩:=s
  obtain⟨⟨m⟩⟩:=s'
  simp at this
  rw[this]
 case sl.sl=>rw[Nat.eq_of_beq_eq_true h.1.1,mc h.1.2,dY _ _ h.2]
 case zs.zs=>rw[Nat.eq_of_beq_eq_true h.1,mc h.2]
 case agg.agg=>rw[dY _ _ h]
 case fn.fn=>rw[Nat.eq_of_beq_eq_true h.1,dY _ _ h.2]
 case rp.rp=>rw[Nat.eq_of_beq_eq_true h.1,dY _ _ h.2]
 case tup.tup=>rw[dY _ _ h]
 case ov.ov=>rw[Nat.eq_of_beq_eq_true h.1.1,mc h.1.2,dY _ _ h.2]
 case pv.pv=>rw[dY _ _ h]
 case mpl.mpl=>rw[dY _ _ h.1,dY _ _ h.2]
 case mpv.mpv=>rw[dY _ _ h.1,dY _ _ h.2]
theorem dY (a:List D) (b:List D) (h:nj a b=true):a=b:=by
 cases a<;>cases b<;>simp only[nj,zq3,Bool.false_eq_true]at h
 case nil.nil=>rfl
 case cons.cons=>rw[F8 _ _ h.1,dY _ _ h.2]
end
abbrev Row:=FuncId×List D×List D
def nN:List Row→FuncId→List D→Option (List D)
 |[],_,_=>none
 |(g',l',r')::t,g,l=>match Nat.beq g' g&&nj l' l with
  |true=>some r'
  |false=>nN t g l
def zS (ty:TypeId→Option Vk) (tab:FuncId→Option Entry):List Row→Prop
 |[]=>True
 |(g,l,r)::t=>Ev ty tab g l r∧zS ty tab t
theorem rD {ty:TypeId→Option Vk} {tab:FuncId→Option Entry}:∀ {t:List Row},zS ty tab t→∀ g l r,nN t g l=some r→Ev ty tab g l r
 |[],_,g,l,r,h=>by cases h
 |(g',l',r')::t,h,g,l,r,hl=>by
  unfold nN at hl
  split at hl
  ·rename_i hb
   simp only[zq3]at hb
   cases hl
   rw[←Nat.eq_of_beq_eq_true hb.1,←dY _ _ hb.2]
   exact h.1
  ·exact rD h.2 g l r hl
theorem Ev.row {ty:TypeId→Option Vk} {tab:FuncId→Option Entry} {g:FuncId} {f:DFun} (hg:tab g=some (.code f)) {l r:List D} (t:List Row) (ht:zS ty tab t) (k:Nat) (he:dbody f (envOf ty tab (nN t)) k l=some r):Ev ty tab g l r:=
 Ev.by hg (nN t) (rD ht) k he
def HQ (ty:TypeId→Option Vk) (tab:FuncId→Option Entry) (t:List Row) (k:Nat) (g:FuncId) (l:List D):Option (List D):=
 match tab g with
 |some (.code f)=>dbody f (envOf ty tab (nN t)) k l
 |some (.wr f e n)=>dbodyW f g e n (envOf ty tab (nN t)) k l
 |some (.rf f)=>drf f (envOf ty tab (nN t)) k l
 |_=>none
theorem Ev.any {ty:TypeId→Option Vk} {tab:FuncId→Option Entry} {g:FuncId} {l r:List D} {t:List Row} (ht:zS ty tab t) (k:Nat) (he:HQ ty tab t k g l=some r):Ev ty tab g l r:=by
 have le:Ec (envOf ty tab (nN t)) (envOf ty tab (Cl ty tab)):=iq fun g l r h=>ln.2 (rD ht g l r h)
 unfold HQ at he
 split at he
 ·rename_i f hf
  exact Ev.row hf t ht k he
 ·rename_i f e n hf
  exact Ev.Fj hf k (pS le (Nat.le_refl _) he)
 ·rename_i f hf
  exact Ev.Fk hf k (wM le (Nat.le_refl _) he)
 ·cases he
theorem Ev.told {ty:TypeId→Option Vk} {tab:FuncId→Option Entry} {g:FuncId} {s:BK} {f:List D→Option (List D)} {l r:List D} (hg:tab g=some (.spec s f)) (h:f l=some r):Ev ty tab g l r:=
 ⟨1,by unfold dcall;rw[hg];exact h⟩
end
section
section
variable {E:Env} {k:Nat}
def ret (ex:Ex) (st:St):Option (Ex×St):=some (ex,st)
end
end
section
section
variable {ty:TypeId→Option Vk} {tab:FuncId→Option Entry}
theorem Eg {g:FuncId} {f:DFun} (hg:tab g=some (.code f)) {l r:List D} (k:Nat) (he:dbody f (envOf ty tab (Cl ty tab)) k l=some r):Cl ty tab g l=some r:=ln.2 (Ev.body hg k he)
theorem CW {g:FuncId} {f:DFun} {e:TypeId} {n:Nat} (hg:tab g=some (.wr f e n)) {l r:List D} (k:Nat) (he:dbodyW f g e n (envOf ty tab (Cl ty tab)) k l=some r):Cl ty tab g l=some r:=ln.2 (Ev.Fj hg k he)
theorem CX {g:FuncId} {f:RfFun} (hg:tab g=some (.rf f)) {l r:List D} (k:Nat) (he:drf f (envOf ty tab (Cl ty tab)) k l=some r):Cl ty tab g l=some r:=ln.2 (Ev.Fk hg k he)
def yK (x:Option (List D)) (K:Bool→List D→Option (List D)):Option (List D):=match x with
 |some [.ov _ nb els]=>K nb els
 |_=>none
abbrev Im (a b:Option (List D)):Prop:=∀ {r:List D},a=some r→b=some r
theorem aG {g:FuncId} {f:DFun} (hg:tab g=some (.code f)) {l:List D} {a:Option (List D)} (k:Nat) (he:dbody f (envOf ty tab (Cl ty tab)) k l=a):Im a (Cl ty tab g l):=fun h=>Eg hg k (he.trans h)
theorem F9 {g:FuncId} {f:DFun} {e:TypeId} {n:Nat} (hg:tab g=some (.wr f e n)) {l:List D} {a:Option (List D)} (k:Nat) (he:dbodyW f g e n (envOf ty tab (Cl ty tab)) k l=a):Im a (Cl ty tab g l):=fun h=>CW hg k (he.trans h)
theorem F_ {g:FuncId} {f:RfFun} (hg:tab g=some (.rf f)) {l:List D} {a:Option (List D)} (k:Nat) (he:drf f (envOf ty tab (Cl ty tab)) k l=a):Im a (Cl ty tab g l):=fun h=>CX hg k (he.trans h)
theorem yL {g:FuncId} {ks:List Vk} (h:∀ dd:List D,fitsV ks dd=true→(∀ d,d∈dd→WT ty d)→Cl ty tab g dd=some [.bool true]):uQ ty tab g ks:=
 fun dd h1 h2=>ln.1 (h dd h1 h2)
end
theorem bk {R σ:Type} {F:List D→(List D→Option R)→Option R} (enc:σ→List D) (val:σ→Option R) (m:σ→Nat) (IJ:σ→Prop)
  (step:∀ s,IJ s→∀ again,(∀ s',IJ s'→m s'<m s→again (enc s')=val s')→F (enc s) again=val s):∀ (k:Nat) (s:σ),IJ s→m s<k→iter k F (enc s)=val s
 |0,s,_,hk=>by omega
 |k+1,s,hs,hk=>by
  unfold iter
  exact step s hs _ fun s' BN hm=>bk enc val m IJ step k s' BN (by omega)
theorem bP {R:Type} {F:List D→(List D→Option R)→Option R} (n:Nat) (enc:Nat→List D) (val:Nat→Option R)
  (step:∀ i,i<n→∀ again,again (enc (i+1))=val (i+1)→F (enc i) again=val i) (fin:∀ again,F (enc n) again=val n) (k:Nat) (hk:n<k) (i:Nat) (hi:i≤n):iter k F (enc i)=val i:=by
 refine bk enc val (fun i=>n - i) (fun i=>i≤n) (fun s hs again h=> ?_) k i hi (by omega)
 rcases Nat.lt_or_ge s n with h1 |h1
 ·exact step s h1 again (h (s+1) (by omega) (by omega))
 ·have:s=n:=by omega
  subst this
  exact fin again
theorem Bo {R α:Type} {F:List D→(List D→Option R)→Option R} (l:List α) (enc:Nat→List D) (val:List α→Option R)
  (step:∀ i (hi:i<l.length),∀ again,again (enc (i+1))=val (l.drop (i+1))→F (enc i) again=val (l[i]::l.drop (i+1))) (fin:∀ again,F (enc l.length) again=val []) (k:Nat) (hk:l.length<k):iter k F (enc 0)=val l:=by
 have:=bP (F:=F) l.length enc (fun i=>val (l.drop i)) (fun i hi again h=>by
  rw[List.drop_eq_getElem_cons hi];exact step i hi again h) (fun again=>by rw[List.drop_length];exact fin again) k hk 0 (by omega)
 simpa using this
theorem lq {α:Type} {f:α→D} {Q:α→Prop}:∀ {els:List D},(∀ d,d∈els→∃ a,d=f a∧Q a)→∃ L:List α,els=L.map f∧∀ a,a∈L→Q a
 |[],_=>⟨[],rfl,fun a h=>by cases h⟩
 |d::els,h=>by
  obtain⟨a,rfl,hq⟩:=h d (List.mem_cons_self ..)
  obtain⟨L,rfl,hL⟩:=lq (els:=els) fun d hd=>h d (List.mem_cons_of_mem _ hd)
  exact⟨a::L,rfl,fun b hb=>by
   rcases List.mem_cons.1 hb with rfl |hb
   ·exact hq
   ·exact hL b hb⟩
theorem bY:∃ k:Nat,9223372036854775808<k:=⟨_,Nat.lt_succ_self _⟩
@[simp] theorem wP (k:IntKind) (n:Int):(D.int k n).cell 0= .int k n:=rfl
@[simp] theorem Bp (b:Bool):(D.bool b).cell 0= .bool b:=rfl
@[simp] theorem HR (s:ByteArray):(D.str s).cell 0= .str s:=rfl
@[simp] theorem IK (e:TypeId) (nb:Bool) (l:List D):(D.sl e nb l).cell 0= .sl e nb l:=rfl
@[simp] theorem HS (cs:List D) (j:Nat):(D.agg cs).cell j=cs.getD j .undef:=rfl
@[simp] theorem Fl (k:IntKind) (n:Int):(D.int k n).i=n:=rfl
@[simp] theorem Ga (b:Bool):(D.bool b).b=b:=rfl
@[simp] theorem K7 (s:ByteArray):(D.str s).s=s:=rfl
@[simp] theorem K8 (e:TypeId) (nb:Bool) (l:List D):(D.sl e nb l).nb=nb:=rfl
@[simp] theorem JV (e:TypeId) (nb:Bool) (l:List D):(D.sl e nb l).els=l:=rfl
@[simp] theorem Fm (e:TypeId) (nb:Bool) (l:List D):(D.ov e nb l).nb=nb:=rfl
@[simp] theorem CY (e:TypeId) (nb:Bool) (l:List D):(D.ov e nb l).els=l:=rfl
@[simp] theorem K9 (l:List D):(D.pv l).cs=l:=rfl
@[simp] theorem JW (l:List D):(D.agg l).cs=l:=rfl
theorem aP {α:Type} {f:α→D} {l:List α} {i:Nat} (h:i<l.length):(l.map f).getD i .undef=f l[i]:=by
 simp[zq1,h]
theorem wrap64 {n:Int} (h1: -9223372036854775808≤n) (h2:n≤9223372036854775807):IntKind.i64.wrap n=n:=by
 rw[IntKind.wrap_i64];omega
theorem cp {α:Type} {p:Prop} [Decidable p] {a b:α} (h:p):(bif decide p then a else b)=a:=by simp[h]
theorem cn {α:Type} {p:Prop} [Decidable p] {a b:α} (h: ¬p):(bif decide p then a else b)=b:=by simp[h]
theorem Ms {α:Type} {p:Prop} [Decidable p] {a b:α} (h:p):(bif !decide p then a else b)=b:=by simp[h]
theorem Mt {α:Type} {p:Prop} [Decidable p] {a b:α} (h: ¬p):(bif !decide p then a else b)=a:=by simp[h]
theorem ct {α:Type} {a b:α}:(bif true then a else b)=a:=rfl
theorem cf {α:Type} {a b:α}:(bif false then a else b)=b:=rfl
theorem HT (a b:Int):(a==b)=decide (a=b):=by by_cases h:a=b<;>simp[h]
theorem JX (a b:Int):(a !=b)=decide (a≠b):=by by_cases h:a=b<;>simp[h]
theorem c2 {i:Nat} {n:Int} (h:n=i) (h1:n.toNat=i):n.toNat=i:=h1
theorem mid {i j:Nat} (h1:i≤j) (h2:j≤9223372036854775807):IntKind.i64.wrap (Int.fdiv (IntKind.u64.wrap (IntKind.i64.wrap ((i:Int)+(j:Int)))) (2^1))=(((i+j)/2:Nat):Int):=by
 have e1:IntKind.u64.wrap (IntKind.i64.wrap ((i:Int)+(j:Int)))=(i:Int)+j:=by
  have e2:∀ n:Int,IntKind.u64.wrap n=n % 18446744073709551616:=fun n=>by simp[IntKind.wrap,IntKind.bits,IntKind.signed]
  rw[e2,IntKind.wrap_i64]
  omega
 rw[e1,Int.fdiv_eq_ediv_of_nonneg _ (by omega)]
 rw[wrap64 (by omega) (by omega)]
 omega
theorem kb {k:Vk} {ks:List Vk} {dd:List D} (h:fitsV (k::ks) dd=true):∃ d ds,dd=d::ds∧k.fits d=true∧fitsV ks ds=true:=by
 cases dd with
 |nil=>cases h
 |cons d ds=>simp only[fitsV,zq3]at h;exact⟨d,ds,rfl,h.1,h.2⟩
theorem Bq {dd:List D} (h:fitsV [] dd=true):dd=[]:=by
 cases dd with
 |nil=>rfl
 |cons d ds=>cases h
theorem bG {k:Sk} {ks:List Sk} {dd:List D} (h:fitsL (k::ks) dd=true):∃ d ds,dd=d::ds∧fits k d=true∧fitsL ks ds=true:=by
 cases dd with
 |nil=>cases h
 |cons d ds=>simp only[fitsL,zq3]at h;exact⟨d,ds,rfl,h.1,h.2⟩
theorem md {dd:List D} (h:fitsL [] dd=true):dd=[]:=by
 cases dd with
 |nil=>rfl
 |cons d ds=>cases h
theorem wQ {s:Sk} {d:D} (h:Vk.fits ⟨false,[s]⟩ d=true):fits s d=true:=by
 simpa[Vk.fits,fitsL]using h
theorem nO {ks:List Sk} {d:D} (h:Vk.fits ⟨true,ks⟩ d=true):∃ cs,d= .agg cs∧fitsL ks cs=true:=by
 cases d<;>simp[Vk.fits]at h
 exact⟨_,rfl,h⟩
theorem zT {e:TypeId} {d:D} (h:fits (.sl e) d=true):∃ nb els,d= .sl e nb els:=by
 cases d<;>simp[fits]at h
 subst h;exact⟨_,_,rfl⟩
theorem cI {k:IntKind} {d:D} (h:fits (.int k) d=true):∃ n,d= .int k n:=by
 cases d<;>simp[fits]at h
 subst h;exact⟨_,rfl⟩
theorem WT.cells {ty:TypeId→Option Vk} {cs:List D} (h:WT ty (.agg cs)):∀ d,d∈cs→WT ty d:=by cases h with |agg _ h=>exact h
theorem WT.els {ty:TypeId→Option Vk} {e:TypeId} {nb:Bool} {els:List D} (h:WT ty (.sl e nb els)):els.length≤9223372036854775807∧(nb=true→els=[])∧(∀ k,ty e=some k→∀ d,d∈els→k.fits d=true)∧∀ d,d∈els→WT ty d:=by
 cases h with |sl _ _ _ h1 h2 h3 h4=>exact⟨by simpa[maxLen]using h1,h2,h3,h4⟩
theorem WT.K_ {ty:TypeId→Option Vk} {k:IntKind} {n:Int} (h:WT ty (.int k n)):k.min≤n∧n≤k.max:=by
 cases h with |int _ _ h=>simpa[Lit.wf]using h
def gD (l:List D) (n:Nat):D:=l.getD n .undef
def gI (l:List D) (n j:Nat):Int:=((l.getD n .undef).cell j).i
def gB (l:List D) (n j:Nat):Bool:=((l.getD n .undef).cell j).b
def gN (l:List D) (n j:Nat):Bool:=((l.getD n .undef).cell j).nb
def gE (l:List D) (n j:Nat):List D:=((l.getD n .undef).cell j).els
def gS (e:TypeId) (l:List D) (n j:Nat):D:= .sl e ((l.getD n .undef).cell j).nb ((l.getD n .undef).cell j).els
def gP (e:TypeId) (l:List D) (n j:Nat):D:= .sl e ((l.getD n .undef).cs.getD j .undef).nb ((l.getD n .undef).cs.getD j .undef).els
def gQ (e:TypeId) (l:List D) (n j:Nat):D:= .ov e ((l.getD n .undef).cs.getD j .undef).nb ((l.getD n .undef).cs.getD j .undef).els
theorem JY:(∀ e l n j,gS e l n j= .sl e ((l.getD n .undef).cell j).nb ((l.getD n .undef).cell j).els)∧(∀ e l n j,gP e l n j= .sl e ((l.getD n .undef).cs.getD j .undef).nb ((l.getD n .undef).cs.getD j .undef).els)∧(∀ e l n j,gQ e l n j= .ov e ((l.getD n .undef).cs.getD j .undef).nb ((l.getD n .undef).cs.getD j .undef).els)∧(∀ l n,gD l n=l.getD n .undef)∧(∀ l n j,gI l n j=((l.getD n .undef).cell j).i)∧(∀ l n j,gB l n j=((l.getD n .undef).cell j).b)∧(∀ l n j,gN l n j=((l.getD n .undef).cell j).nb)∧(∀ l n j,gE l n j=((l.getD n .undef).cell j).els):=⟨fun _ _ _ _=>rfl,fun _ _ _ _=>rfl,fun _ _ _ _=>rfl,fun _ _=>rfl,fun _ _ _=>rfl,fun _ _ _=>rfl,fun _ _ _=>rfl,fun _ _ _=>rfl⟩
theorem ay:((∀ e l n j,gS e l n j= .sl e ((l.getD n .undef).cell j).nb ((l.getD n .undef).cell j).els)∧(∀ e l n j,gP e l n j= .sl e ((l.getD n .undef).cs.getD j .undef).nb ((l.getD n .undef).cs.getD j .undef).els)∧(∀ e l n j,gQ e l n j= .ov e ((l.getD n .undef).cs.getD j .undef).nb ((l.getD n .undef).cs.getD j .undef).els)∧(∀ l n,gD l n=l.getD n .undef)∧(∀ l n j,gI l n j=((l.getD n .undef).cell j).i)∧(∀ l n j,gB l n j=((l.getD n .undef).cell j).b)∧(∀ l n j,gN l n j=((l.getD n .undef).cell j).nb)∧(∀ l n j,gE l n j=((l.getD n .undef).cell j).els))∧(∀ h:Decidable True, @decide True h=true)∧(∀ h:Decidable False, @decide False h=false)∧
  (∀ (α:Type) (h:Decidable True) (a b:α), @ite α True h a b=a)∧(∀ (α:Type) (h:Decidable False) (a b:α), @ite α False h a b=b)∧
  ((false=true)=False)∧((true=false)=False)∧(∀ (α:Type) (a:α),(a=a)=True)∧
  (∀ b,(true ||b)=true)∧(∀ b,(false ||b)=b)∧(∀ b,(true&&b)=b)∧(∀ b,(false&&b)=false)∧(∀ b,(b ||true)=true)∧(∀ b,(b ||false)=b)∧(∀ b,(b&&true)=b)∧(∀ b,(b&&false)=false)∧
  (∀ (x:D) l d,(x::l).getD 0 d=x)∧(∀ (x:D) l n d,(x::l).getD (n+1) d=l.getD n d)∧
  (∀ k n,(D.int k n).cell 0= .int k n)∧(∀ b,(D.bool b).cell 0= .bool b)∧(∀ s,(D.str s).cell 0= .str s)∧(∀ e b l,(D.sl e b l).cell 0= .sl e b l)∧(∀ cs j,(D.agg cs).cell j=cs.getD j .undef)∧
  (∀ k n,(D.int k n).i=n)∧(∀ b,(D.bool b).b=b)∧(∀ s,(D.str s).s=s)∧(∀ e b l,(D.sl e b l).nb=b)∧(∀ e b l,(D.sl e b l).els=l)∧(∀ e b l,(D.ov e b l).nb=b)∧(∀ e b l,(D.ov e b l).els=l)∧(∀ l,(D.pv l).cs=l)∧(∀ l,(D.agg l).cs=l)∧
  (∀ n:Nat,(n:Int).toNat=n)∧(∀ i:Nat,1≤i→((i:Int) - 1).toNat=i - 1)∧(∀ i:Nat,((i:Int)+1).toNat=i+1)∧
  (∀ (α β:Type) (f:α→β) l,(List.map f l).length=l.length)∧(∀ (α:Type) (f:α→D) (l:List α) (i:Nat) (h:i<l.length),(l.map f).getD i .undef=f l[i])∧
  (∀ (α:Type) (a b:α),(bif true then a else b)=a)∧(∀ (α:Type) (a b:α),(bif false then a else b)=b)∧(∀ a b:Int,(a==b)=decide (a=b))∧(∀ a b:Int,(a !=b)=decide (a≠b))∧
  (∀ (α:Type) (p:Prop) (h:Decidable p) (a b:α),p→(bif @decide p h then a else b)=a)∧(∀ (α:Type) (p:Prop) (h:Decidable p) (a b:α),¬p→(bif @decide p h then a else b)=b)∧
  (∀ (α:Type) (p:Prop) (h:Decidable p) (a b:α),p→(bif !@decide p h then a else b)=b)∧(∀ (α:Type) (p:Prop) (h:Decidable p) (a b:α),¬p→(bif !@decide p h then a else b)=a)∧
  (∀ (α:Type) (p:Prop) (h:Decidable p) (a b:α),p→ @ite α p h a b=a)∧(∀ (α:Type) (p:Prop) (h:Decidable p) (a b:α),¬p→ @ite α p h a b=b)∧
  (∀ n:Int, -9223372036854775808≤n→n≤9223372036854775807→IntKind.i64.wrap n=n)∧(∀ (α β:Type) (a:α) (f:α→Option β),(some a).bind f=f a)∧((!true)=false)∧((!false)=true)∧
  ((([]:List D).isEmpty)=true)∧(∀ l:List D,[]++l=l)∧(([]:List D).length=0)∧(∀ (x:D) l,(x::l).length=l.length+1)∧(∀ n,0+n=n):=by
 refine⟨JY, ?_, ?_, ?_, ?_, ?_, ?_, ?_, ?_, ?_, ?_, ?_, ?_, ?_, ?_, ?_,fun _ _ _=>rfl,fun _ _ _ _=>rfl,fun _ _=>rfl,fun _=>rfl,fun _=>rfl,fun _ _ _=>rfl,fun _ _=>rfl,fun _ _=>rfl,fun _=>rfl,fun _=>rfl,fun _ _ _=>rfl,fun _ _ _=>rfl,fun _ _ _=>rfl,fun _ _ _=>rfl,fun _=>rfl,fun _=>rfl, ?_, ?_, ?_, ?_,fun _ f l i h=>aP h, ?_, ?_,HT,JX,fun _ p _ _ _ h=>cp h,fun _ p _ _ _ h=>cn h,fun _ p _ _ _ h=>Ms h,fun _ p _ _ _ h=>Mt h,fun _ p _ _ _ h=>if_pos h,fun _ p _ _ _ h=>if_neg h,fun _=>wrap64,fun _ _ _ _=>rfl,rfl,rfl,rfl,fun _=>rfl,rfl,fun _ _=>rfl, ?_⟩<;>intros<;>first |rfl |omega |simp
end
end Go.Proofs.Ytkfnkiejikhglaa.GD
