/- A value-level interpreter of the translated code, with the proof that it is sound: part 3. -/
import Derived.Test.YtkfnkiejikhglaaG2
set_option linter.unusedVariables false
set_option linter.unusedSimpArgs false
namespace Go.Proofs.Ytkfnkiejikhglaa.GD
open Go
section
def re (a:Am) (d:D):Obj:=
 match a with
 | .m e=> .arr e d.nb d.els
 | .v ks=> .var (fZ ks d.cs 0)
 |_=> .dead
theorem AN {rs:List D} {n:Nat} {d:D} {ds:List D} (h:rs.drop n=d::ds):rs.getD n .undef=d∧rs.drop (n+1)=ds:=by
 have h1:rs[n]? =some d:=by
  have:=congrArg (fun l:List D=>l[0]?) h
  simpa using this
 refine⟨by rw[zq1,h1];rfl, ?_⟩
 have:=congrArg (List.drop 1) h
 simpa[List.drop_drop]using this
theorem pc {ty:TypeId→Option Vk} {w:World} {ok:Nat→Prop} {vs:Array Value} {blks:Nat→Option Nat} {rs:List D}:
  ∀ (am:List Am) (dd:List D) (i0 n:Nat),am.length=dd.length→(∀ (i:Nat) (a:Am),am[i]? =some a→lentA a=true→∃ id,bv a (dd.getD i .undef)=some id)→BackR ty w ok vs blks i0 am (rs.drop n)→
   (∃ bd:Nat→D,∀ p:Nat×Obj,p∈bc rs n am dd→∃ (i:Nat) (a:Am),am[i]? =some a∧lentA a=true∧bv a (dd.getD i .undef)=some p.1∧yj ty w ok (vs.getD (i0+i) undef) (blks (i0+i)) a (bd i)∧p.2=re a (bd i))∧
   (∀ (i:Nat) (a:Am) (id:Nat),am[i]? =some a→lentA a=true→bv a (dd.getD i .undef)=some id→∃ p:Nat×Obj,p∈bc rs n am dd∧p.1=id)
 |[],[],i0,n,hl,hh,hb=>⟨⟨fun _=> .undef,fun p hp=>by simp[bc]at hp⟩,fun i a id hi=>by simp at hi⟩
 |a::am,d::dd,i0,n,hl,hh,hb=>by
  have D2:am.length=dd.length:=by simpa using hl
  have Hc:∀ (i:Nat) (a:Am),am[i]? =some a→lentA a=true→∃ id,bv a (dd.getD i .undef)=some id:=fun i b hi hb=>by
   have:=hh (i+1) b (by simpa using hi) hb
   simpa using this
  have up:∀ {n':Nat} {bd:Nat→D} (d0:D),(∀ p:Nat×Obj,p∈bc rs n' am dd→∃ (i:Nat) (a:Am),am[i]? =some a∧lentA a=true∧bv a (dd.getD i .undef)=some p.1∧yj ty w ok (vs.getD (i0+1+i) undef) (blks (i0+1+i)) a (bd i)∧p.2=re a (bd i))→
    ∀ p:Nat×Obj,p∈bc rs n' am dd→∃ (i:Nat) (a':Am),(a::am)[i]? =some a'∧lentA a'=true∧bv a' ((d::dd).getD i .undef)=some p.1∧yj ty w ok (vs.getD (i0+i) undef) (blks (i0+i)) a' ((fun |0=>d0 |i+1=>bd i:Nat→D) i)∧p.2=re a' ((fun |0=>d0 |i+1=>bd i:Nat→D) i):=by
   intro n' bd d0 h p hp
   obtain⟨i,a',h1,h2,h3,h4,h5⟩:=h p hp
   exact⟨i+1,a',by simpa using h1,h2,by simpa using h3,by rw[show i0+(i+1)=i0+1+i by omega];exact h4,h5⟩
  cases ym:lentA a with
  |false=>
   have e:bc rs n (a::am) (d::dd)=bc rs n am dd:=by cases a<;>first |rfl |(simp[lentA]at ym)
   simp only[BackR,ym]at hb
   obtain⟨⟨bd,g1⟩,g2⟩:=pc am dd (i0+1) n D2 Hc hb
   rw[e]
   refine⟨⟨_,up .undef g1⟩,fun i a' id hi Cs hid=> ?_⟩
   cases i with
   |zero=>simp at hi;subst hi;rw[ym]at Cs;cases Cs
   |succ i=>exact g2 i a' id (by simpa using hi) Cs (by simpa using hid)
  |true=>
   simp only[BackR,ym]at hb
   split at hb
   ·rename_i d1 M7 BM
    obtain⟨e1,e2⟩:=AN BM
    obtain⟨hb1,zB⟩:=hb
    rw[←e2]at zB
    obtain⟨⟨bd,g1⟩,g2⟩:=pc am dd (i0+1) (n+1) D2 Hc zB
    obtain⟨L1,yn⟩:=hh 0 a rfl ym
    rw[List.getD_cons_zero]at yn
    have e:bc rs n (a::am) (d::dd)=(L1,re a d1)::bc rs (n+1) am dd:=by
     cases a<;>simp[lentA]at ym
     ·cases d<;>simp[bv]at yn
      subst yn
      simp only[bc,re,e1]
     ·cases d<;>simp[bv]at yn
      subst yn
      simp only[bc,re,e1]
    rw[e]
    refine⟨⟨(fun |0=>d1 |i+1=>bd i:Nat→D),fun p hp=> ?_⟩,fun i a' id hi Cs hid=> ?_⟩
    ·rcases List.mem_cons.1 hp with rfl |hp
     ·exact⟨0,a,rfl,ym,yn,hb1,rfl⟩
     ·exact up d1 g1 p hp
    ·cases i with
     |zero=>
      simp at hi
      subst hi
      rw[List.getD_cons_zero,yn]at hid
      cases hid
      exact⟨_,List.mem_cons_self ..,rfl⟩
     |succ i=>
      obtain⟨p,hp,hq⟩:=g2 i a' id (by simpa using hi) Cs (by simpa using hid)
      exact⟨p,List.mem_cons_of_mem _ hp,hq⟩
   ·exact hb.elim
 |[],_::_,_,_,hl,_,_=>by simp at hl
 |_::_,[],_,_,hl,_,_=>by simp at hl
theorem pN:∀ (ks:List Sk) (cs:List D) (j i:Nat),i<ks.length→(∀ i (s:Sk),ks[i]? =some s→fits s (cs.getD (j+i) .undef)=true)→(fZ ks cs j).getD i .undef=cs.getD (j+i) .undef
 |[],_,_,i,h,_=>by simp at h
 |k::ks,cs,j,0,h,hf=>by simpa[fZ]using eta_fits (hf 0 k rfl)
 |k::ks,cs,j,i+1,h,hf=>by
  simp only[fZ,List.getD_cons_succ]
  rw[pN ks cs (j+1) i (by simpa using h) (fun i s hs=>by have:=hf (i+1) s (by simpa using hs);rwa [show j+(i+1)=j+1+i by omega]at this),show j+1+i=j+(i+1)by omega]
theorem pP:∀ (ks:List Sk) (cs:List D) (j:Nat),(fZ ks cs j).length=ks.length
 |[],_,_=>rfl
 |k::ks,cs,j=>by simp[fZ,pP ks cs (j+1)]
theorem uJ {ks:List Sk} {cs:List D} (h:fitsL ks cs=true):fZ ks cs 0=cs:=by
 obtain⟨h1,h2⟩:=fitsL_spec h
 apply List.ext_getElem (by rw[pP,h1])
 intro i D1 Hz
 have:=pN ks cs 0 i (by omega) (fun i s hs=>by rw[Nat.zero_add];exact h2 i s hs)
 rw[Nat.zero_add]at this
 simpa[zq1,D1,Hz]using this
theorem etaV_self {k:Vk} {d:D} (h:k.fits d=true):etaV k d 0=d:=by
 unfold etaV
 rcases Vk.cB h with⟨hk,ds,rfl,hl⟩ |⟨hk,h1,hp,hn⟩
 ·rw[hk]
  simp only[D.agg.injEq]
  apply List.ext_getElem (by rw[cu,hl])
  intro i D1 Hz
  have:=fj k.ks (.agg ds) 0 i (by rw[cu]at D1;exact D1) (fun i s hs=>by rw[Nat.zero_add];exact Vk.cg h i s hs)
  rw[Nat.zero_add]at this
  simpa[zq1,D.cell,D1,Hz]using this
 ·rw[hk]
  simp only[Vk.fits,hk]at h
  obtain⟨_,s,h2,h3⟩:=iA h
  obtain⟨s',BN⟩:∃ s',k.ks=[s']:=by
   cases e1:k.ks with
   |nil=>simp[e1]at h1
   |cons s' r=>simp[e1]at h1;exact⟨s',by simp[h1]⟩
  rw[BN]at h2⊢
  simp at h2
  subst h2
  have hc:d.cell 0=d:=by cases d<;>first |rfl |exact absurd rfl (hn _)
  simp only[hc]
  exact eta_fits h3
theorem repT1_fits {C:Cx} {os:List Obj} {G:Gh} {w:World} {k:Vk} {v:Value} {d:D} (h:RepV C.ty w (okB C os G w) v d) (hf:k.fits d=true):RepT1 C os G w v d:=by
 rcases Vk.cB hf with⟨hk,ds,rfl,hl⟩ |⟨hk,h1,hp,hn⟩
 ·cases h with
  |agg cs ds hs hrep=>
   refine⟨cs,rfl,hs,fun j hj=> ?_⟩
   have:=Vk.cg hf j k.ks[j] (zq4 (by omega))
   exact (hrep j hj).t0 (fits_pure this)
 ·have:=h.t0 hp
  cases d<;>first |exact this |exact absurd rfl (hn _)
end
section
section
variable {C:Cx} {P:Program} {E:Env} {tm:Array Value} {G:Gh} {w:World}
theorem pure_cell0 {d:D} (h:pure0 d=true):cell0 d=true:=by cases d<;>first |exact h |rfl
theorem fitsL_refs {ks:List Sk} {cs:List D} (h:fitsL ks cs=true):refsL cs=[]:=by
 simp only[refsL,List.flatMap_eq_nil_iff]
 intro d hd
 obtain⟨j,hj,rfl⟩:=List.getElem_of_mem hd
 obtain⟨s,_,h2⟩:=fitsL_get h hj
 rw[zq1,zq4 hj]at h2
 exact (ij (fits_pure h2)).1
theorem rowR_len {ty:TypeId→Option Vk} {w:World} {ok:Nat→Prop} {k:Vk} {v:Value} {blk:Option Nat} {els:List D} {nb:Bool} (h:RowR ty w ok k v blk els nb):qO v els.length:=by
 obtain⟨xs,⟨_,h3⟩,_⟩:=h
 rcases h3 with⟨_,h0,a,h1,h2,h4⟩ |⟨h2,g,cap,cur,t,_,h1,_,h4,_⟩
 ·exact⟨a,0,by rw[h1,h0],by omega,fun _=>h0,h4⟩
 ·exact⟨_,cap,h1,h4,(fun h=>by cases h),(fun x hx=>by cases hx;exact fun _=>rfl)⟩
theorem rg {k:Vk} {d:D} (h:k.fits d=true):refs1 d=[]:=by
 rcases Vk.cB h with⟨hk,ds,rfl,hl⟩ |⟨hk,h1,hp,hn⟩
 ·simp only[Vk.fits,hk]at h
  exact fitsL_refs h
 ·cases d<;>first |rfl |exact absurd rfl (hn _) |(simp[pure0]at hp;done)
theorem fits_refsD {k:Vk} {d:D} (h:k.fits d=true):refsD d=[]:=by
 have:=rg h
 rcases Vk.cB h with⟨hk,ds,rfl,hl⟩ |⟨hk,h1,hp,hn⟩
 ·exact this
 ·cases d<;>first |exact this |(simp[pure0]at hp;done)
def l9 (os:List Obj) (a:Am) (id:Nat):Prop:=
 match a with
 | .g e=>∃ nb els,os[id]? =some (.arr e nb els)
 | .m e=>∃ nb els,os[id]? =some (.arr e nb els)
 | .v ks=>∃ cs,os[id]? =some (.var cs)∧fitsL ks cs=true
 | .p=>False
theorem l9.live {os:List Obj} {a:Am} {id:Nat} (h:l9 os a id):∃ o,os[id]? =some o∧GD.live o=true:=by
 cases a with
 |p=>exact h.elim
 |g e=>obtain⟨nb,els,h⟩:=h;exact⟨_,h,rfl⟩
 |m e=>obtain⟨nb,els,h⟩:=h;exact⟨_,h,rfl⟩
 |v ks=>obtain⟨cs,h,_⟩:=h;exact⟨_,h,rfl⟩
theorem l_ {o:Obj} (h:live o=true):isDead o=false:=by cases o<;>first |rfl |cases h
abbrev cH (G:Gh) (am:List Am) (dd:List D) (i:Nat):Option Nat:=(fb am dd i).bind fun id=>(G id).2
theorem tD {ts:List D} {os:List Obj} (h:Rel C tm ⟨ts,os⟩ G w) (hE:E.ty=C.ty) {sg:BK} {br:List Nat} {dd rs:List D} {vs:Array Value} {X:Nat→Prop} {w':World} {rv:List Value} {rb:Nat→Option Nat}
  (BO:sg.am.length=dd.length) (hn:nodupB (dB sg.am dd)=true) (GU:br.length=sg.rm.length) (HA:nodupB br=true) (hsd:∀ s,s∈br→os[s]? =some .dead)
  (uK:∀ (i:Nat) (a:Am) (id:Nat),sg.am[i]? =some a→bv a (dd.getD i .undef)=some id→l9 os a id)
  (E9:∀ (i:Nat) (a:Am),sg.am[i]? =some a→lentA a=true→∃ id,bv a (dd.getD i .undef)=some id∧vs.getD i undef=(G id).1)
  (HB:sJ E sg=true∨∀ b,LB os G b→(∀ i,cH G sg.am dd i≠some b)→X b)
  (post:Post C.ty sg.am sg.rm rs w vs (cH G sg.am dd) X w' rv rb) (hCX:∀ b,C.X b→X b):
  ∃ G',Rel C tm ⟨ts,wrL os (dC sg.am dd++((aS rs 0 sg.rm br).2++bc rs sg.rm.length sg.am dd))⟩ G' w'∧
   RepT C (wrL os (dC sg.am dd++((aS rs 0 sg.rm br).2++bc rs sg.rm.length sg.am dd))) G' w' (retV rv) (vR (aS rs 0 sg.rm br).1)∧
   (∀ id,id∈refsD (vR (aS rs 0 sg.rm br).1)→isDead ((wrL os (dC sg.am dd++((aS rs 0 sg.rm br).2++bc rs sg.rm.length sg.am dd))).getD id .gone)=false)∧
   ∀ i,isDead (os.getD i .gone)=false→G' i=G i:=by
 classical
 obtain⟨KQ,Jt,Ju,D4⟩:=pb (rs:=rs) sg.rm 0 br GU
 obtain⟨⟨bd,E_⟩,L2⟩:=pc sg.am dd 0 sg.rm.length BO (fun i a hi hl=>by obtain⟨id,h1,_⟩:=E9 i a hi hl;exact⟨id,h1⟩) post.back
 simp only[Nat.zero_add]at Jt Ju D4 E_
 have FX:=fun (p:Nat×Obj)=>Co (am:=sg.am) (dd:=dd) BO (p:=p)
 generalize hws:dC sg.am dd++((aS rs 0 sg.rm br).2++bc rs sg.rm.length sg.am dd)=ws
 have ju:∀ p,p∈ws↔p∈dC sg.am dd∨p∈(aS rs 0 sg.rm br).2∨p∈bc rs sg.rm.length sg.am dd:=by
  intro p;rw[←hws,List.mem_append,List.mem_append]
 have uL:∀ (i:Nat) (id:Nat),fb sg.am dd i=some id→∃ a,sg.am[i]? =some a∧bv a (dd.getD i .undef)=some id∧l9 os a id:=by
  intro i id hid
  unfold fb at hid
  cases e:sg.am[i]? with
  |none=>simp[e]at hid
  |some a=>
   simp[e]at hid
   have hid':bv a (dd.getD i .undef)=some id:=by simpa[zq1]using hid
   exact⟨a,rfl,hid',uK i a id e hid'⟩
 have wv:∀ {i:Nat} {a:Am} {id:Nat},sg.am[i]? =some a→bv a (dd.getD i .undef)=some id→fb sg.am dd i=some id:=by
  intro i a id h1 h2
  simp only[fb,h1,Option.bind_some]
  exact h2
 have Ct:∀ {id n:Nat} {o:Obj},br[n]? =some id→os[id]? =some o→live o=true→False:=by
  intro id n o h1 h2 h3
  have:=hsd id (List.mem_of_getElem? h1)
  rw[this]at h2
  cases h2
  cases h3
 let S:Nat→Prop:=fun id=>∃ (n:Nat) (e:TypeId),br[n]? =some id∧sg.rm[n]? =some (.o e)
 let G2:Gh:=fun id=>if hS:S id then (rv.getD hS.choose undef,rb hS.choose)else G id
 have pd:∀ {id n:Nat} {e:TypeId},br[n]? =some id→sg.rm[n]? =some (.o e)→G2 id=(rv.getD n undef,rb n):=by
  intro id n e h1 h2
  have hS:S id:=⟨n,e,h1,h2⟩
  have hc:hS.choose=n:=by
   obtain⟨e',h3,_⟩:=hS.choose_spec
   exact m_ HA h3 h1
  simp only[G2,dif_pos hS,hc]
 have rh:∀ {id:Nat},¬S id→G2 id=G id:=fun hS=>by simp only[G2,dif_neg hS]
 have uM:∀ {id:Nat} {o:Obj},os[id]? =some o→isDead o=false→ ¬S id:=by
  rintro id o h1 h2 ⟨n,e,h3,_⟩
  have:=hsd id (List.mem_of_getElem? h3)
  rw[this]at h1
  cases h1
  cases h2
 have key:∀ p q:Nat×Obj,p∈ws→q∈ws→p.1=q.1→p.2=q.2:=by
  have one:∀ p q:Nat×Obj,p∈dC sg.am dd→q∈bc rs sg.rm.length sg.am dd→p.1=q.1→False:=by
   intro p q hp hq he
   obtain⟨_,i,e,h1,h2⟩:=(FX p).1 hp
   obtain⟨j,a,h3,h4,h5,_⟩:=E_ q hq
   rw[he]at h2
   have:=o_ BO hn h2 (wv h3 h5)
   subst this
   rw[h1]at h3
   cases h3
   cases h4
  have two:∀ p q:Nat×Obj,p∈(aS rs 0 sg.rm br).2→(q∈dC sg.am dd∨q∈bc rs sg.rm.length sg.am dd)→p.1=q.1→False:=by
   intro p q hp hq he
   obtain⟨n,e,h1,h2,_⟩:=(D4 p).1 hp
   rcases hq with hq |hq
   ·obtain⟨_,i,e',h3,h4⟩:=(FX q).1 hq
    obtain⟨a,_,_,nB⟩:=uL i _ h4
    obtain⟨o,ho,hl⟩:=nB.live
    exact Ct h2 (he▸ho) hl
   ·obtain⟨j,a,h3,h4,h5,_⟩:=E_ q hq
    obtain⟨o,ho,hl⟩:=(uK j a _ h3 h5).live
    exact Ct h2 (he▸ho) hl
  intro p q hp hq he
  rcases (ju p).1 hp with hp |hp |hp<;>rcases (ju q).1 hq with hq |hq |hq
  ·rw[((FX p).1 hp).1,((FX q).1 hq).1]
  ·exact (two q p hq (.inl hp) he.symm).elim
  ·exact (one p q hp hq he).elim
  ·exact (two p q hp (.inl hq) he).elim
  ·obtain⟨n,e,h1,h2,h3⟩:=(D4 p).1 hp
   obtain⟨m,e',g1,g2,g3⟩:=(D4 q).1 hq
   rw[he]at h2
   have:=m_ HA h2 g2
   subst this
   rw[h1]at g1
   cases g1
   rw[h3,g3]
  ·exact (two p q hp (.inr hq) he).elim
  ·exact (one q p hq hp he.symm).elim
  ·exact (two q p hq (.inr hp) he.symm).elim
  ·obtain⟨j,a,h3,h4,h5,_,h6⟩:=E_ p hp
   obtain⟨m,b,g3,g4,g5,_,g6⟩:=E_ q hq
   rw[he]at h5
   have:=o_ BO hn (wv h3 h5) (wv g3 g5)
   subst this
   rw[h3]at g3
   cases g3
   rw[h6,g6]
 have L3:∀ p:Nat×Obj,p∈ws→p.1<os.length:=by
  intro p hp
  rcases (ju p).1 hp with hp |hp |hp
  ·obtain⟨_,i,e,_,h4⟩:=(FX p).1 hp
   obtain⟨a,_,_,nB⟩:=uL i _ h4
   obtain⟨o,ho,_⟩:=nB.live
   exact (zq6.1 ho).1
  ·obtain⟨n,e,h1,h2,_⟩:=(D4 p).1 hp
   exact (zq6.1 (hsd _ (List.mem_of_getElem? h2))).1
  ·obtain⟨j,a,h3,h4,h5,_⟩:=E_ p hp
   obtain⟨o,ho,_⟩:=(uK j a _ h3 h5).live
   exact (zq6.1 ho).1
 have got:∀ p:Nat×Obj,p∈ws→(wrL os ws)[p.1]? =some p.2:=fun p hp=>wrL_mem ws os p key hp (L3 p hp)
 have cls:∀ id o o',os[id]? =some o→(wrL os ws)[id]? =some o'→
   (∃ (i:Nat) (e:TypeId),sg.am[i]? =some (.g e)∧fb sg.am dd i=some id∧o'= .gone∧isDead o=false)∨
   (∃ (i:Nat) (a:Am),sg.am[i]? =some a∧lentA a=true∧fb sg.am dd i=some id∧bv a (dd.getD i .undef)=some id∧live o=true∧yj C.ty w' (okR sg.am (cH G sg.am dd) X w' rb) (vs.getD i undef) (cH G sg.am dd i) a (bd i)∧o'=re a (bd i))∨
   (∃ (n:Nat) (e:TypeId),br[n]? =some id∧sg.rm[n]? =some (.o e)∧o= .dead∧o'= .arr e (rs.getD n .undef).nb (rs.getD n .undef).els)∨
   (o'=o∧ ¬S id∧∀ i,fb sg.am dd i≠some id):=by
  intro id o o' ho BP
  by_cases h1:∃ i,fb sg.am dd i=some id
  ·obtain⟨i,hi⟩:=h1
   obtain⟨a,ha,hid,nB⟩:=uL i id hi
   obtain⟨o1,ho1,hl1⟩:=nB.live
   rw[ho]at ho1
   cases ho1
   by_cases hg:∃ e,a= .g e
   ·obtain⟨e,rfl⟩:=hg
    have hp:(id,Obj.gone)∈ws:=(ju _).2 (.inl ((FX _).2 ⟨rfl,i,e,ha,hi⟩))
    have:=got _ hp
    rw[BP]at this
    cases this
    exact .inl ⟨i,e,ha,hi,rfl,l_ hl1⟩
   ·have ym:lentA a=true:=by
     cases a with
     |p=>exact nB.elim
     |g e=>exact absurd ⟨e,rfl⟩ hg
     |m e=>rfl
     |v ks=>rfl
    obtain⟨p,hp,Jv⟩:=L2 i a id ha ym hid
    have Jw:=got _ ((ju p).2 (.inr (.inr hp)))
    obtain⟨j,b,g1,g2,g3,g4,g5⟩:=E_ p hp
    rw[Jv]at g3 Jw
    have:=o_ BO hn (wv g1 g3) hi
    subst this
    rw[ha]at g1
    cases g1
    rw[BP]at Jw
    cases Jw
    exact .inr (.inl ⟨j,a,ha,ym,hi,hid,hl1,g4,g5⟩)
  ·by_cases h2:S id
   ·obtain⟨n,e,hs1,hs2⟩:=h2
    have hp:(id,Obj.arr e (rs.getD n .undef).nb (rs.getD n .undef).els)∈ws:=(ju _).2 (.inr (.inl ((D4 _).2 ⟨n,e,hs2,hs1,rfl⟩)))
    have:=got _ hp
    rw[BP]at this
    cases this
    have hd:=hsd id (List.mem_of_getElem? hs1)
    rw[ho]at hd
    cases hd
    exact .inr (.inr (.inl ⟨n,e,hs1,hs2,rfl,rfl⟩))
   ·have hno:(wrL os ws)[id]? =os[id]? :=by
     refine wrL_not ws os fun p hp he=> ?_
     rcases (ju p).1 hp with hp |hp |hp
     ·obtain⟨_,i,e,_,h4⟩:=(FX p).1 hp
      exact h1 ⟨i,he▸h4⟩
     ·obtain⟨n,e,h3,h4,_⟩:=(D4 p).1 hp
      exact h2 ⟨n,e,he▸h4,h3⟩
     ·obtain⟨j,a,h3,h4,h5,_⟩:=E_ p hp
      exact h1 ⟨j,he▸wv h3 h5⟩
    rw[hno,ho]at BP
    cases BP
    exact .inr (.inr (.inr ⟨rfl,h2,fun i hi=>h1 ⟨i,hi⟩⟩))
 have lh:(wrL os ws).length=os.length:=wrL_len ws os
 have zK:∀ {i id:Nat},fb sg.am dd i=some id→cH G sg.am dd i=(G id).2:=by
  intro i id hi
  simp only[cH,hi,Option.bind_some]
 have mH:∀ {i b:Nat},cH G sg.am dd i=some b→∃ id,fb sg.am dd i=some id∧(G id).2=some b∧∃ o,os[id]? =some o∧live o=true:=by
  intro i b hb
  cases e:fb sg.am dd i with
  |none=>simp[cH,e]at hb
  |some id=>
   rw[zK e]at hb
   obtain⟨a,_,_,nB⟩:=uL i id e
   exact⟨id,rfl,hb,nB.live⟩
 have getO:∀ {id:Nat} {o':Obj},(wrL os ws)[id]? =some o'→∃ o,os[id]? =some o:=by
  intro id o' h'
  have:=(zq6.1 h').1
  rw[lh]at this
  exact⟨_,zq4 this⟩
 have mo:sJ E sg=true∨∀ b,okR sg.am (cH G sg.am dd) X w' rb b→okB C (wrL os ws) G2 w' b:=by
  rcases HB with hm |hm
  ·exact .inl hm
  ·right
   rintro b ⟨b1,b2,b3,b4⟩
   refine⟨b1,fun ⟨id,o',BP,hl,hb⟩=> ?_,fun hx=>b2 (hCX b hx)⟩
   obtain⟨o,ho⟩:=getO BP
   rcases cls id o o' ho BP with⟨i,e,_,_,rfl,_⟩ |⟨i,a,c1,c2,c3,_,c4,_⟩ |⟨n,e,c1,c2,_,_⟩ |⟨rfl,c2,c3⟩
   ·cases hl
   ·rw[rh (uM ho (l_ c4))]at hb
    exact b4 i a c1 c2 (by rw[zK c3];exact hb)
   ·rw[pd c1 c2]at hb
    exact b3 n hb
   ·rw[rh c2]at hb
    refine b2 (hm b ⟨id,_,ho,hl,hb⟩ fun i hi=> ?_)
    obtain⟨Cu,d1,d2,o2,d3,d4⟩:=mH hi
    have:=h.inj Cu id o2 _ b d3 ho d4 hl d2 hb
    subst this
    exact c3 i d1
 have Jx:sJ E sg=true→∀ {n:Nat} {e:TypeId} {k:Vk},sg.rm[n]? =some (.o e)→C.ty e=some k→k.ks.all Sk.jq=true:=by
  intro hb n e k h1 h2
  simp only[sJ,zq3]at hb
  have:=all_get hb.1 h1
  simpa[jq,hE,h2]using this
 have Jy:sJ E sg=true→∀ {n:Nat} {k:Vk},sg.rm[n]? =some (.p k)→k.ks.all Sk.jq=true:=by
  intro hb n k h1
  simp only[sJ,zq3]at hb
  exact all_get hb.1 h1
 have Jz:sJ E sg=true→∀ {n:Nat} {e:TypeId} {k:Vk},sg.am[n]? =some (.m e)→C.ty e=some k→k.ks.all Sk.jq=true:=by
  intro hb n e k h1 h2
  simp only[sJ,zq3]at hb
  have:=all_get hb.2 h1
  simpa[pC,hE,h2]using this
 have JA:sJ E sg=true→∀ {n:Nat} {ks:List Sk},sg.am[n]? =some (.v ks)→ks.all Sk.jq=true:=by
  intro hb n ks h1
  simp only[sJ,zq3]at hb
  exact all_get hb.2 h1
 have Fa:∀ {k:Vk} {v:Value} {blk:Option Nat} {els:List D} {nb:Bool},RowR C.ty w' (okR sg.am (cH G sg.am dd) X w' rb) k v blk els nb→(sJ E sg=true→k.ks.all Sk.jq=true)→RowR C.ty w' (okB C (wrL os ws) G2 w') k v blk els nb:=by
  intro k v blk els nb hr hb
  rcases mo with hm |hm
  ·exact Cr hr (hb hm)
  ·exact hr.mono hm
 have tn:∀ id o o',os[id]? =some o→(wrL os ws)[id]? =some o'→Cn C (wrL os ws) G G2 w w' (fun b=>∃ i,cH G sg.am dd i=some b) id o o':=by
  intro id o o' ho BP
  rcases cls id o o' ho BP with⟨i,e,_,_,c1,c2⟩ |⟨i,a,c1,c2,c3,c4,c5,c6,c7⟩ |⟨n,e,c1,c2,c3,c4⟩ |⟨c1,c2,c3⟩
  ·exact .gone c1 c2
  ·have hG2:G2 id=G id:=rh (uM ho (l_ c5))
   obtain⟨id',d1,d2⟩:=E9 i a c1 c2
   rw[c4]at d1
   cases d1
   have nB:=uK i a id c1 c4
   rw[zK c3,d2]at c6
   have h7:∀ b,(G id).2=some b→∃ i,cH G sg.am dd i=some b:=fun b hb=>⟨i,by rw[zK c3];exact hb⟩
   cases a with
   |p=>cases c2
   |g e=>cases c2
   |m e=>
    obtain⟨nb,els,k,e1,e2,e3⟩:=c6
    obtain⟨nb0,els0,e4⟩:=nB
    rw[ho]at e4
    cases e4
    rw[e1]at c7
    have ID:o'= .arr e nb els:=c7
    subst ID
    obtain⟨k0,f1,f2⟩:=objRel_row.1 (h.os id _ ho)
    have hlen:=row_len e3 f2
    refine .wu rfl hG2 (by simp[oSh,hlen]) rfl (fun i hi=>by cases hi) (objRel_row.2 ⟨k,e2, ?_⟩) h7
    rw[hG2]
    exact Fa e3 fun hb=>Jz hb c1 e2
   |v ks=>
    obtain⟨cs,e1,e3⟩:=c6
    obtain⟨cs0,e4,e5⟩:=nB
    rw[ho]at e4
    cases e4
    rw[e1]at c7
    have ID:o'= .var (fZ ks cs 0):=c7
    obtain⟨f1,g,cells,t,f2,f3,f4,f5,f6⟩:=e3
    rw[uJ f1]at ID
    subst ID
    have hpure:∀ j,j<cs.length→pure0 (cs.getD j .undef)=true:=fun j hj=>by
     obtain⟨s,_,hs⟩:=fitsL_get f1 hj
     exact fits_pure hs
    refine .wu rfl hG2 (by simp[oSh,(fitsL_spec f1).1,(fitsL_spec e5).1]) rfl (fun i hi=>by simp only[refsO]at hi;rw[fitsL_refs f1]at hi;cases hi) ⟨g,cells,t,by rw[hG2];exact Prod.ext f2 f3,f4,f5,fun j hj=>⟨?_,pure_cell0 (hpure j hj)⟩⟩ h7
    refine RepV.t0 ?_ (hpure j hj)
    rcases mo with hm |hm
    ·obtain⟨s,hs1,hs2⟩:=fitsL_get f1 hj
     exact l7 (f6 j hj) hs2 (all_get (JA hm c1) hs1)
    ·exact (f6 j hj).mono hm (fun _ _=>rfl)
  ·obtain⟨nb,els,k,e1,e2,e3⟩:=post.res n _ c2
   rw[e1]at c4
   have L4:o'= .arr e nb els:=c4
   subst L4
   refine .site c3 rfl rfl (objRel_row.2 ⟨k,e2, ?_⟩) (fun b hb=> ?_)
   ·rw[pd c1 c2]
    exact Fa e3 fun hb=>Jx hb c2 e2
   ·rw[pd c1 c2]at hb
    obtain⟨_,r1,_,r2⟩:=post.rblk n b hb
    refine⟨?_,r1⟩
    rcases r2 with r2 |⟨j,e',_,r3⟩
    ·exact .inl r2
    ·exact .inr ⟨j,r3⟩
  ·refine .same c1 (rh c2) (fun hl b hb ⟨i,hi⟩=> ?_)
   obtain⟨Cu,d1,d2,o2,d3,d4⟩:=mH hi
   have:=h.inj Cu id o2 o b d3 ho d4 hl d2 hb
   subst this
   exact c3 i d1
 have hrel:Rel C tm ⟨ts,wrL os ws⟩ G2 w':=by
  refine h.many lh (fun b=>∃ i,cH G sg.am dd i=some b) (fun b ⟨i,hi⟩=> ?_) tn ?_ (fun b hb hH=>post.frame b hb fun j hj=>hH ⟨j,hj⟩) post.size post.tape post.os post.out
  ·obtain⟨Cu,d1,d2,o2,d3,d4⟩:=mH hi
   exact⟨Cu,o2,d3,d4,d2⟩
  ·intro i j oi oj b hi Hz qf hli hlj hbi hbj
   obtain⟨pj,D5⟩:=getO qf
   rcases cls i _ oi hi Hz with⟨_,_,_,_,rfl,_⟩ |⟨_,_,_,_,_,_,c5,_⟩ |⟨n,e,c1,c2,_,_⟩ |⟨rfl,_,_⟩
   ·cases hli
   ·cases c5
   ·rw[pd c1 c2]at hbi
    obtain⟨_,r1,_,r2⟩:=post.rblk n b hbi
    rcases cls j pj oj D5 qf with⟨_,_,_,_,rfl,_⟩ |⟨m,a,d1,d2,d3,_,d5,_⟩ |⟨m,e',d1,d2,_,_⟩ |⟨rfl,d2,d3⟩
    ·cases hlj
    ·rw[rh (uM D5 (l_ d5))]at hbj
     rcases r2 with r2 |⟨q,e',r3,r4⟩
     ·have:=(h.inX b ⟨j,pj,D5,d5,hbj⟩).2.1
      omega
     ·obtain⟨Cu,f1,f2,o2,f3,f4⟩:=mH r4
      have:=h.inj Cu j o2 pj b f3 D5 f4 d5 f2 hbj
      subst this
      have:=o_ BO hn f1 d3
      subst this
      rw[r3]at d1
      cases d1
      cases d2
    ·rw[pd d1 d2]at hbj
     have:=post.rinj n m b hbi hbj
     subst this
     rw[c1]at d1
     cases d1
     rfl
    ·rw[rh d2]at hbj
     rcases r2 with r2 |⟨q,e',r3,r4⟩
     ·have:=(h.inX b ⟨j,_,D5,hlj,hbj⟩).2.1
      omega
     ·obtain⟨Cu,f1,f2,o2,f3,f4⟩:=mH r4
      have:=h.inj Cu j o2 _ b f3 D5 f4 hlj f2 hbj
      subst this
      exact absurd f1 (d3 q)
   ·cases hli
 refine⟨G2,hrel, ?_, ?_,fun i hi=> ?_⟩
 ·have each:∀ (n:Nat) (m:Rm),sg.rm[n]? =some m→RepT1 C (wrL os ws) G2 w' (rv.getD n undef) ((aS rs 0 sg.rm br).1.getD n .undef):=by
   intro n m hm
   have hres:=post.res n m hm
   cases m with
   |p k=>
    obtain⟨_,f1,f2⟩:=hres
    rw[Jt n k hm,etaV_self f1]
    refine repT1_fits ?_ f1
    rcases mo with hb |hb
    ·exact Cq f2 f1 (Jy hb hm)
    ·exact f2.mono hb (fun _ _=>rfl)
   |o e=>
    obtain⟨nb,els,k,f1,f2,f3⟩:=hres
    have Hl:n<br.length:=by rw[GU];exact (zq6.1 hm).1
    have hs:=zq4 Hl
    rw[Ju n e _ hm hs,f1]
    have hp:(br[n],Obj.arr e nb els)∈ws:=(ju _).2 (.inr (.inl ((D4 _).2 ⟨n,e,hm,hs,by rw[f1];rfl⟩)))
    refine⟨rowR_len f3, ?_⟩
    rw[oAt_of (got _ hp)]
    exact⟨rfl,rfl,by rw[pd hs hm]⟩
  generalize (aS rs 0 sg.rm br).1=tl at each KQ
  have hl1:=post.len
  have L5:∀ {v:Value} {d:D},RepT1 C (wrL os ws) G2 w' v d→RepT C (wrL os ws) G2 w' v d:=by
   intro v d hd
   cases d<;>first |exact hd |exact hd.elim
  have many:rv.length≠1→RepT C (wrL os ws) G2 w' (.tuple rv.toArray) (.tup tl):=by
   intro _
   refine⟨rv.toArray,rfl,by simp;omega,fun j hj=> ?_⟩
   have:=each j sg.rm[j] (zq4 (by omega))
   simpa[zq2,zq1]using this
  match rv,tl,hl1,KQ with
  |[],[],_,_=>exact many (by simp)
  |[v],[d],hl1,_=>
   have h0:0<sg.rm.length:=by simp at hl1;omega
   have:=each 0 sg.rm[0] (zq4 h0)
   have h1:RepT1 C (wrL os ws) G2 w' v d:=by simpa using this
   exact L5 h1
  |v1::v2::vr,d1::d2::dr,_,_=>exact many (by simp)
  |[],_::_,h1,h2=>simp at h1 h2;omega
  |[_],[],h1,h2=>simp at h1 h2;omega
  |[_],_::_::_,h1,h2=>simp at h1 h2;omega
  |_::_::_,[],h1,h2=>simp at h1 h2;omega
  |_::_::_,[_],h1,h2=>simp at h1 h2;omega
 ·have each:∀ d,d∈(aS rs 0 sg.rm br).1→∀ id,id∈refsD d→isDead ((wrL os ws).getD id .gone)=false:=by
   intro d hd id hid
   obtain⟨n,L6,rfl⟩:=List.getElem_of_mem hd
   have HC:n<sg.rm.length:=by omega
   have hg:(aS rs 0 sg.rm br).1.getD n .undef=(aS rs 0 sg.rm br).1[n]:=by simp[zq1,L6]
   rw[←hg]at hid
   have hres:=post.res n sg.rm[n] (zq4 HC)
   have hm:=zq4 HC
   generalize sg.rm[n]=m at hres hm
   cases m with
   |p k=>
    obtain⟨_,f1,f2⟩:=hres
    rw[Jt n k hm,etaV_self f1,fits_refsD f1]at hid
    cases hid
   |o e=>
    have Hl:n<br.length:=by omega
    have hs:=zq4 Hl
    rw[Ju n e _ hm hs]at hid
    simp[refsD,refs1,refs0,refsb]at hid
    subst hid
    have hp:(br[n],Obj.arr e (rs.getD n .undef).nb (rs.getD n .undef).els)∈ws:=(ju _).2 (.inr (.inl ((D4 _).2 ⟨n,e,hm,hs,rfl⟩)))
    have:=got _ hp
    simp only at this
    rw[zq1,this]
    rfl
  intro id hid
  generalize (aS rs 0 sg.rm br).1=tl at each hid
  have tup:id∈refsD (.tup tl)→isDead ((wrL os ws).getD id .gone)=false:=by
   intro hid
   obtain⟨d,h1,h2⟩:=List.mem_flatMap.1 hid
   refine each d h1 id ?_
   cases d<;>first |exact h2 |(simp[refs1,refs0,refsb]at h2;done)
  match tl,each,hid,tup with
  |[],each,hid,tup=>exact tup hid
  |[d],each,hid,tup=>exact each d (List.mem_cons_self ..) id hid
  |d1::d2::dr,each,hid,tup=>exact tup hid
 ·have: ¬S i:=by
   rintro⟨n,e,h3,_⟩
   have:=hsd i (List.mem_of_getElem? h3)
   simp[zq1,this,isDead]at hi
  exact rh this
end
end
section
def wd (ro:Option Nat):Fence:={fn:=fun _=>True,depth:=none,alive:=false,round:=ro}
theorem callsIn_wd {ro:Option Nat} {n:Nat} {P:Program} {f:FuncId} {args:Array Value} {w:World} {R:Ending→World→Prop}:CallsIn (wd ro) n P f args w R↔Calls P f args w R:=
 callsIn_wide (n:=n)
theorem nK {ro:Option Nat} {ρ:Operand→Value} {o:Oper} (h:∀ c,o.op≠ .defer c):Oper.semAt (wd ro).round ρ o=execOp ρ o:=by
 cases ro with
 |none=>exact Oper.semAt_none ..
 |some l=>exact Oper.semAt_some l ρ o h
def Cv (C:Cx) (P:Program) (a:Act) (st:St) (G:Gh) (w:World) (o:Oper) (v:D) (ws:Wr):Prop:=
 ∀ (ro:Option Nat) (hnd:∀ c,o.op≠ .defer c) (K:Act→World→Prop) (Q:Exit→Act→World→Prop),
  (∀ v' w' G',Rel C a.tmps ⟨st.ts,wrL st.os ws⟩ G' w'→RepT C (wrL st.os ws) G' w' v' v→(∀ id,id∈refsD v→isDead ((wrL st.os ws).getD id .gone)=false)→
   (∀ i,isDead (st.os.getD i .gone)=false→G' i=G i)→K (a.put o.dst v') w')→o.wpIn (wd ro) 0 P a w K Q
def Bodies (P:Program) (E:Env):Prop:=∀ g sg,E.sig g=some sg→∃ fn,P.funcs[g]? =some fn∧(fn.name== "runtime.NumGoroutine")=false∧fn.body.isNone=false∧∀ (i:Nat) (e:TypeId),sg.am[i]? =some (.g e)→(E.ty e).isSome=true
section
variable {C:Cx} {P:Program} {E:Env} {a:Act} {st:St} {G:Gh} {w:World} {o:Oper} {V:Vw}
theorem co.op {v:D} {ws:Wr} (h:co C a.tmps st G w v ws ((execOp a.eval o).run P w)):Cv C P a st G w o v ws:=by
 intro ro hnd K Q hK
 obtain⟨v',w',G',hr,h1,h2,h3,h4⟩:=h
 refine⟨fun _ _=>trivial, ?_⟩
 rw[nK hnd]
 rcases hr with hr |⟨rfl,hr⟩
 ·rw[hr]
  exact hK v' w' G' h1 h2 h3 h4
 ·rw[hr]
  exact hK undef w' G' h1 h2 h3 h4
theorem apart_ne {xs ys:List Nat} (h:apart xs ys=true) {x:Nat} (hx:x∈xs):x∉ys:=by
 have:=List.all_eq_true.1 h x hx
 simpa using this
theorem AO (h:Rel C a.tmps st G w) (hE:E.ty=C.ty) (hV:∀ id o,V id=o→o≠ .dead→st.os[id]? =some o) (hS:SoundCall P E) (hB:Bodies P E) {g:FuncId} {sg:BK} (Cw:E.sig g=some sg) {br:List Nat} (hsd:∀ s,s∈br→st.os[s]? =some .dead)
  {dd l rs:List D} {vs:Array Value} (hvs:vs.size=dd.length) (hrep:∀ j,j<dd.length→RepT C st.os G w (vs.getD j undef) (dd.getD j .undef))
  (hl:pB V sg.am dd=some l) (hn:nodupB (dB sg.am dd)=true) (hap:apart (oO sg.am dd) (dB sg.am dd)=true) (GU:br.length=sg.rm.length) (HA:nodupB br=true) (hrs:E.call g l=some rs):
  Calls P g vs w fun
   | .returned v',w'=>∃ G',Rel C a.tmps ⟨st.ts,wrL st.os ((match sJ E sg with |true=>[] |false=>cr V sg.am dd)++(dC sg.am dd++((aS rs 0 sg.rm br).2++bc rs sg.rm.length sg.am dd)))⟩ G' w'∧
     RepT C (wrL st.os ((match sJ E sg with |true=>[] |false=>cr V sg.am dd)++(dC sg.am dd++((aS rs 0 sg.rm br).2++bc rs sg.rm.length sg.am dd)))) G' w' v' (vR (aS rs 0 sg.rm br).1)∧
     (∀ id,id∈refsD (vR (aS rs 0 sg.rm br).1)→isDead ((wrL st.os ((match sJ E sg with |true=>[] |false=>cr V sg.am dd)++(dC sg.am dd++((aS rs 0 sg.rm br).2++bc rs sg.rm.length sg.am dd)))).getD id .gone)=false)∧
     ∀ i,isDead (st.os.getD i .gone)=false→G' i=G i
   |_,_=>False:=by
 obtain⟨l1,l2,l3⟩:=na hl
 have BO:sg.am.length=dd.length:=l2.symm
 have hp:∀ (i:Nat),sg.am[i]? =some .p→pureD (frz V (dd.getD i .undef)).1=true∧l.getD i .undef=(frz V (dd.getD i .undef)).1:=by
  intro i hi
  have:=l3 i .p hi
  simp only[b_]at this
  split at this
  ·rename_i hp
   simp only[zq5]at this
   exact⟨hp,this.symm⟩
  ·cases this
 obtain⟨hz,L7⟩:=Cp hV sg.am dd st.os BO h (.refl st.os) (fun j=>vs.getD j undef) hrep fun i hi=>(hp i hi).1
 have DF:∀ id,id∈dB sg.am dd→(wrL st.os (cr V sg.am dd))[id]? =st.os[id]? :=by
  intro id hid
  refine wrL_not _ _ fun p hp he=> ?_
  exact apart_ne hap (uI hp) (he▸hid)
 have wv:∀ {i:Nat} {x:Am} {id:Nat},sg.am[i]? =some x→bv x (dd.getD i .undef)=some id→fb sg.am dd i=some id:=by
  intro i x id h1 h2
  simp only[fb,h1,Option.bind_some]
  exact h2
 have FY:∀ {i:Nat} {x:Am} {id:Nat},sg.am[i]? =some x→bv x (dd.getD i .undef)=some id→id∈dB sg.am dd:=fun h1 h2=>uH BO (wv h1 h2)
 have uN:∀ (i:Nat) (x:Am) (id:Nat),sg.am[i]? =some x→bv x (dd.getD i .undef)=some id→l9 st.os x id:=by
  intro i x id hi hid
  have h1:=l3 i x hi
  generalize dd.getD i .undef=d at h1 hid
  cases x with
  |p=>cases d<;>simp[bv]at hid
  |g e=>
   cases d<;>simp[bv]at hid
   subst hid
   simp only[b_]at h1
   split at h1
   ·rename_i e' nb els hx
    split at h1
    ·rename_i hee
     subst hee
     exact⟨nb,els,hV _ _ hx (by simp)⟩
    ·cases h1
   ·cases h1
  |m e=>
   cases d<;>simp[bv]at hid
   subst hid
   simp only[b_]at h1
   split at h1
   ·rename_i e' nb els hx
    split at h1
    ·rename_i hee
     subst hee
     exact⟨nb,els,hV _ _ hx (by simp)⟩
    ·cases h1
   ·cases h1
  |v ks=>
   cases d<;>simp[bv]at hid
   subst hid
   simp only[b_]at h1
   split at h1
   ·rename_i cs hx
    split at h1
    ·rename_i hee
     exact⟨cs,hV _ _ hx (by simp),hee.2⟩
    ·cases h1
   ·cases h1
 have jlt:∀ {i:Nat} {x:Am},sg.am[i]? =some x→i<dd.length:=fun hi=>by
  have:=(zq6.1 hi).1
  omega
 have args:∀ (i:Nat) (x:Am),sg.am[i]? =some x→yj C.ty w (okB C (wrL st.os (cr V sg.am dd)) G w) (vs.getD i undef) (cH G sg.am dd i) x (l.getD i .undef):=by
  intro i x hi
  have h1:=l3 i x hi
  have h2:=hrep i (jlt hi)
  have hblk:∀ {id:Nat},bv x (dd.getD i .undef)=some id→cH G sg.am dd i=(G id).2:=fun hid=>by
   simp only[cH,wv hi hid,Option.bind_some]
  have ww:bv x (dd.getD i .undef)=none→cH G sg.am dd i=none:=fun hid=>by
   simp only[cH,fb,hi,Option.bind_some]
   rw[hid]
   rfl
  have nB:=uN i x
  have hin:∀ {id:Nat},bv x (dd.getD i .undef)=some id→id∈dB sg.am dd:=fun hid=>FY hi hid
  cases x with
  |p=>
   obtain⟨p1,p2⟩:=hp i hi
   rw[p2]
   exact⟨p1,ww (by generalize dd.getD i .undef=d;cases d<;>rfl),L7 i hi⟩
  |g e=>
   generalize dd.getD i .undef=d at h1 h2 hblk ww hin
   cases d with
   |own e1 id n=>
    simp only[b_]at h1
    split at h1
    ·rename_i e' nb els hx
     split at h1
     ·rename_i hee
      subst hee
      simp only[zq5]at h1
      have hid:=hV _ _ hx (by simp)
      have Cy:=(DF id (hin rfl)).trans hid
      obtain⟨k,k1,k2⟩:=objRel_row.1 (hz.rel.os id _ Cy)
      simp only[RepT,RepT1,RepT0,oAt_of hid,oSh]at h2
      rw[hblk rfl,h2.2.2.2]
      exact⟨nb,els,k,h1.symm,k1,k2⟩
     ·cases h1
    ·cases h1
   |zs e1 nb=>
    simp only[b_]at h1
    split at h1
    ·rename_i hee
     subst hee
     simp only[zq5]at h1
     rw[ww rfl]
     simp only[RepT,RepT1,RepT0]at h2
     have:∃ aa:Option Addr,vs.getD i undef= .slice aa 0 0∧nb=aa.isNone∧∀ y,aa=some y→(0:Nat)≠0→y.spot=none:=by
      generalize vs.getD i undef=u at h2
      cases h2 with
      |zsnil=>exact⟨none,rfl,rfl,fun y hy=>by cases hy⟩
      |zs e ad k hk hsp=>exact⟨some ad,rfl,rfl,fun y hy=>by cases hy;exact hsp⟩
     obtain⟨aa,f1,f2,f3⟩:=this
     obtain⟨k,hk⟩:=Option.isSome_iff_exists.1 ((hB g sg Cw).choose_spec.2.2.2 i _ hi)
     rw[hE]at hk
     exact⟨nb,[],k,h1.symm,hk,[],⟨by simp,.inl ⟨rfl,rfl,aa,f1,f2,f3⟩⟩,(fun d hd=>by cases hd),(fun i j hi=>by simp at hi)⟩
    ·cases h1
   |_=>simp[b_]at h1
  |m e=>
   generalize dd.getD i .undef=d at h1 h2 hblk ww hin
   cases d with
   |own e1 id n=>
    simp only[b_]at h1
    split at h1
    ·rename_i e' nb els hx
     split at h1
     ·rename_i hee
      subst hee
      simp only[zq5]at h1
      have hid:=hV _ _ hx (by simp)
      have Cy:=(DF id (hin rfl)).trans hid
      obtain⟨k,k1,k2⟩:=objRel_row.1 (hz.rel.os id _ Cy)
      simp only[RepT,RepT1,RepT0,oAt_of hid,oSh]at h2
      rw[hblk rfl,h2.2.2.2]
      exact⟨nb,els,k,h1.symm,k1,k2⟩
     ·cases h1
    ·cases h1
   |_=>simp[b_]at h1
  |v ks=>
   generalize dd.getD i .undef=d at h1 h2 hblk ww hin
   cases d with
   |ptr id off=>
    simp only[b_]at h1
    split at h1
    ·rename_i cs hx
     split at h1
     ·rename_i hee
      simp only[zq5]at h1
      have hid:=hV _ _ hx (by simp)
      have Cy:=(DF id (hin rfl)).trans hid
      obtain⟨g0,cells,t,k1,k2,k3,k4⟩:=hz.rel.os id _ Cy
      simp only[RepT,RepT1,RepT0,oAt_of hid,oSh]at h2
      obtain⟨_,g1,k5,k6⟩:=h2
      rw[k1]at k5
      simp only[Value.pointer.injEq,zq5,Addr.mk.injEq,and_true]at k5
      subst k5
      rw[hblk rfl,k6,hee.1,k1]
      refine⟨cs,h1.symm,hee.2,g0,cells,t,rfl,rfl,k2,k3,fun j hj=> ?_⟩
      obtain⟨s,_,hs⟩:=fitsL_get hee.2 hj
      exact (k4 j hj).1.toV (fits_pure hs)
     ·cases h1
    ·cases h1
   |_=>simp[b_]at h1
 have mH:∀ {i b:Nat},cH G sg.am dd i=some b→∃ (id:Nat) (x:Am),fb sg.am dd i=some id∧sg.am[i]? =some x∧(G id).2=some b∧id∈dB sg.am dd∧∃ o,st.os[id]? =some o∧live o=true:=by
  intro i b hb
  cases e:fb sg.am dd i with
  |none=>simp[cH,e]at hb
  |some id=>
   simp only[cH,e,Option.bind_some]at hb
   have e0:=e
   unfold fb at e
   cases e2:sg.am[i]? with
   |none=>simp[e2]at e
   |some x=>
    simp only[e2,Option.bind_some]at e
    exact⟨id,x,rfl,rfl,hb,FY e2 e,(uN i x id e2 e).live⟩
 have KR:∀ {i b:Nat},cH G sg.am dd i=some b→LB (wrL st.os (cr V sg.am dd)) G b:=by
  intro i b hb
  obtain⟨id,x,_,_,f1,f2,o',f3,f4⟩:=mH hb
  exact⟨id,o',by rw[DF id f2];exact f3,f4,f1⟩
 have mk:∀ X:Nat→Prop,(∀ b,C.X b→X b)→(∀ b,X b→C.X b∨(LB (wrL st.os (cr V sg.am dd)) G b∧∀ i,cH G sg.am dd i≠some b))→Pre C.ty sg.am l w vs (cH G sg.am dd) X:=by
  intro X hX1 JB
  have L8:∀ {i b:Nat},cH G sg.am dd i=some b→ ¬X b:=by
   intro i b hb hx
   rcases JB b hx with h' |h'
   ·exact (hz.rel.inX b (KR hb)).1 h'
   ·exact h'.2 i hb
  have zL:∀ b,okB C (wrL st.os (cr V sg.am dd)) G w b→b<w.heap.size∧ ¬X b∧∀ j,cH G sg.am dd j≠some b:=by
   rintro b ⟨b1,b2,b3⟩
   refine⟨b1,fun hx=> ?_,fun j hj=>b2 (KR hj)⟩
   rcases JB b hx with h' |h'
   ·exact b3 h'
   ·exact b2 h'.1
  refine⟨by omega,l1,fun i x hi=> ?_,fun i j b hi hj=> ?_,fun i b hb=> ?_,fun b hb=> ?_⟩
  ·have:=args i x hi
   cases x with
   |p=>exact⟨this.1,this.2.1,this.2.2.mono zL (fun _ _=>rfl)⟩
   |g e=>
    obtain⟨nb,els,k,q1,q2,q3⟩:=this
    exact⟨nb,els,k,q1,q2,q3.mono zL⟩
   |m e=>
    obtain⟨nb,els,k,q1,q2,q3⟩:=this
    exact⟨nb,els,k,q1,q2,q3.mono zL⟩
   |v ks=>
    obtain⟨cs,q1,q2⟩:=this
    exact⟨cs,q1,q2.mono zL⟩
  ·obtain⟨JC,x1,f1,f2,f3,f4,o1,f5,f6⟩:=mH hi
   obtain⟨Cu,x2,g1,g2,g3,g4,o2,g5,g6⟩:=mH hj
   have:=h.inj JC Cu o1 o2 b f5 g5 f6 g6 f3 g3
   subst this
   exact o_ BO hn f1 g1
  ·obtain⟨JC,x1,f1,f2,f3,f4,o1,f5,f6⟩:=mH hb
   exact⟨(zq6.1 f2).1,(h.inX b ⟨JC,o1,f5,f6,f3⟩).2.1,L8 hb⟩
  ·rcases JB b hb with h' |h'
   ·have:=h.xw b h'
    have:=h.size
    omega
   ·exact (hz.rel.inX b h'.1).2.1
 have wu:∀ (i:Nat) (x:Am),sg.am[i]? =some x→lentA x=true→∃ id,bv x (dd.getD i .undef)=some id∧vs.getD i undef=(G id).1:=by
  intro i x hi hx
  have h1:=l3 i x hi
  have h2:=hrep i (jlt hi)
  generalize dd.getD i .undef=d at h1 h2
  cases x with
  |p=>cases hx
  |g e=>cases hx
  |m e=>
   cases d with
   |own e1 id n=>
    simp only[b_]at h1
    split at h1
    ·rename_i e' nb els hx
     have hid:=hV _ _ hx (by simp)
     simp only[RepT,RepT1,RepT0,oAt_of hid,oSh]at h2
     exact⟨id,rfl,h2.2.2.2⟩
    ·cases h1
   |_=>simp[b_]at h1
  |v ks=>
   cases d with
   |ptr id off=>
    simp only[b_]at h1
    split at h1
    ·rename_i cs hx
     split at h1
     ·rename_i hee
      have hid:=hV _ _ hx (by simp)
      simp only[RepT,RepT1,RepT0,oAt_of hid,oSh]at h2
      obtain⟨_,g1,k5,k6⟩:=h2
      refine⟨id,rfl, ?_⟩
      rw[k5,k6,hee.1]
     ·cases h1
    ·cases h1
   |_=>simp[b_]at h1
 have sound:=hS g sg Cw
 rw[hE]at sound
 cases hb:sJ E sg with
 |true=>
  refine (sound l rs hrs w vs (cH G sg.am dd) C.X (mk C.X (fun _ h=>h) (fun b h=> .inl h))).mono fun e w' hR=> ?_
  cases e with
  |panicked _=>exact hR.elim
  |outgrown=>exact hR.elim
  |returned v'=>
   obtain⟨rv,rb,rfl,post⟩:=hR
   simp only[List.nil_append]
   exact tD h hE BO hn GU HA hsd uN wu (.inl hb) post (fun _ h=>h)
 |false=>
  refine (sound l rs hrs w vs (cH G sg.am dd) (fun b=>C.X b∨(LB (wrL st.os (cr V sg.am dd)) G b∧∀ i,cH G sg.am dd i≠some b)) (mk _ (fun _ h=> .inl h) (fun b h=>h))).mono fun e w' hR=> ?_
  cases e with
  |panicked _=>exact hR.elim
  |outgrown=>exact hR.elim
  |returned v'=>
   obtain⟨rv,rb,rfl,post⟩:=hR
   have JD:∀ s,s∈br→(wrL st.os (cr V sg.am dd))[s]? =some .dead:=by
    intro s hs
    rcases hz.fz s _ (hsd s hs)with h' |⟨_,_,_,h',_⟩ |⟨_,h',_⟩
    ·exact h'
    ·cases h'
    ·cases h'
   have FZ:∀ (i:Nat) (x:Am) (id:Nat),sg.am[i]? =some x→bv x (dd.getD i .undef)=some id→l9 (wrL st.os (cr V sg.am dd)) x id:=by
    intro i x id hi hid
    have h0:=uN i x id hi hid
    have e0:=DF id (FY hi hid)
    cases x with
    |p=>exact h0.elim
    |g e=>obtain⟨nb,els,h0⟩:=h0;exact⟨nb,els,e0.trans h0⟩
    |m e=>obtain⟨nb,els,h0⟩:=h0;exact⟨nb,els,e0.trans h0⟩
    |v ks=>obtain⟨cs,h0,h1⟩:=h0;exact⟨cs,e0.trans h0,h1⟩
   obtain⟨G',r1,r2,r3,r4⟩:=tD hz.rel hE BO hn GU HA JD FZ wu (.inr fun b h1 h2=> .inr ⟨h1,h2⟩) post (fun _ h=> .inl h)
   rw[←bO]at r1 r2 r3
   refine⟨G',r1,r2,r3,fun i hi=>r4 i ?_⟩
   rcases Nat.lt_or_ge i st.os.length with hlt |hge
   ·have e1:st.os.getD i .gone=st.os[i]:=by simp[zq1,hlt]
    rw[e1]at hi
    rcases hz.fz i _ (zq4 hlt)with h' |⟨_,_,_,h1,h'⟩ |⟨_,h1,h'⟩
    ·rw[zq1,h'];exact hi
    ·rw[zq1,h'];rfl
    ·rw[zq1,h'];rfl
   ·have:(wrL st.os (cr V sg.am dd))[i]? =none:=List.getElem?_eq_none (by rw[wrL_len];exact hge)
    rw[zq1,this]
    rfl
theorem qg {xs ys:Array Value} {ds es:List D} (h:xs.size=ds.length) (j:Nat):
  (j<ds.length→(xs++ys).getD j undef=xs.getD j undef∧(ds++es).getD j .undef=ds.getD j .undef)∧
  (ds.length≤j→(xs++ys).getD j undef=ys.getD (j - ds.length) undef∧(ds++es).getD j .undef=es.getD (j - ds.length) .undef):=by
 refine⟨fun hj=>⟨?_, ?_⟩,fun hj=>⟨?_, ?_⟩⟩
 ·simp[zq2,Array.getElem?_append,show j<xs.size by omega]
 ·simp[zq1,List.getElem?_append,hj]
 ·rw[zq2,Array.getElem?_append,if_neg (by omega),h,zq2]
 ·simp[zq1,List.getElem?_append,show¬j<ds.length by omega]
theorem AP (h:Rel C a.tmps st G w) (hE:E.ty=C.ty) (hV:∀ id o,V id=o→o≠ .dead→st.os[id]? =some o) (hv:HV C st G w a.eval) (hS:SoundCall P E) (hB:Bodies P E) {br:List Nat} (hsd:∀ s,s∈br→st.os[s]? =some .dead)
  {c:Call} {f:Operand} {a0:Opd} {as:List Opd} {v:D} {ws:Wr} (aW:o.op= .call c) (Cz:c.callee= .value f) (hf:bM f a0=true) (lk:eB c.args.toList as=true)
  (he:pD KS E br V ((a0::as).map (Opd.val st.ts))=some (v,ws)):Cv C P a st G w o v ws:=by
 simp only[List.map_cons]at he
 unfold pD at he
 split at he
 ·rename_i g caps ds heq
  simp only[List.cons.injEq]at heq
  obtain⟨h0,rfl⟩:=heq
  split at he
  ·cases he
  ·rename_i sg Cw
   split at he
   ·cases he
   ·rename_i l hl
    split at he
    ·rename_i jd
     simp only[zq3,Nat.beq_eq]at jd
     obtain⟨⟨⟨n1,n2⟩,n3⟩,n4⟩:=jd
     cases hrs:E.call g l with
     |none=>simp[hrs]at he
     |some rs=>
      simp only[hrs,Option.bind_some,zq5,Prod.mk.injEq]at he
      obtain⟨rfl,rfl⟩:=he
      obtain⟨q1,q2,q3⟩:=uA hv lk
      have CA:=(hv f a0 hf).1
      rw[h0]at CA
      simp only[RepT,RepT1,RepT0]at CA
      obtain⟨mI,IE,xW,HD⟩:∃ mI:Array Value,a.eval f= .func (.func g) #[] mI∧mI.size=caps.length∧∀ j,j<caps.length→RepV C.ty w (okB C st.os G w) (mI.getD j undef) (caps.getD j .undef):=by
       generalize a.eval f=u at CA
       cases CA with
       |fn f mI dc hs hrep=>exact⟨mI,rfl,hs,hrep⟩
      obtain⟨l1,l2,l3⟩:=na hl
      have hvs:(c.args.map a.eval++mI).size=(as.map (Opd.val st.ts)++caps).length:=by simp at q1⊢;omega
      have hrep:∀ j,j<(as.map (Opd.val st.ts)++caps).length→RepT C st.os G w ((c.args.map a.eval++mI).getD j undef) ((as.map (Opd.val st.ts)++caps).getD j .undef):=by
       intro j hj
       obtain⟨g1,g2⟩:=qg (ys:=mI) (es:=caps) q1 j
       rcases Nat.lt_or_ge j (as.map (Opd.val st.ts)).length with hjl |hjl
       ·obtain⟨e1,e2⟩:=g1 hjl
        rw[e1,e2]
        exact q2 j hjl
       ·obtain⟨e1,e2⟩:=g2 hjl
        rw[List.length_append]at hj
        have:=HD (j - (as.map (Opd.val st.ts)).length) (by omega)
        have qf:j<sg.am.length:=by rw[←l2,List.length_append];exact hj
        have ho:=l3 j sg.am[j] (zq4 qf)
        rw[e2]at ho
        rw[e1,e2]
        exact D3 this ho
      have core:=AO h hE hV hS hB Cw hsd hvs hrep hl n1 n2 n3 n4 hrs
      intro ro hnd K Q hK
      obtain⟨fn,b1,b2,b3,_⟩:=hB g sg Cw
      have hrun:(execOp a.eval o).run P w= .ok (.enter g (c.args.map a.eval++mI)) w:=by
       simp only[execOp,aW,resolve,Cz,IE,Deferred.ofValue,Sem.run_bind,Sem.run_pure,Result.andThen_ok,invoke,callFunc,run_program,b1,b2,b3,Bool.false_eq_true,if_false,Array.empty_append]
      refine⟨fun _ _=>trivial, ?_⟩
      rw[nK hnd,hrun,Oper.uponIn_enter]
      refine⟨fun h=>(by simp[wd]at h),callsIn_wd.2 (core.mono fun e w' hR=> ?_)⟩
      cases e with
      |panicked _=>exact hR.elim
      |outgrown=>exact hR.elim
      |returned v'=>
       obtain⟨G',r1,r2,r3,r4⟩:=hR
       exact hK v' w' G' r1 r2 r3 r4
    ·cases he
 ·cases he
end
end
section
def cloV (g:FuncId) (O A:Nat):Value:= .func (.func g) #[] #[.pointer (some ⟨O,0,none⟩),.pointer (some ⟨A,0,none⟩)]
structure PreW (ty:TypeId→Option Vk) (g:FuncId) (e:TypeId) (x:D) (nb:Bool) (els:List D) (w:World) (v slv:Value) (O A:Nat) (blk:Option Nat) (k:Vk) (X:Nat→Prop):Prop where
 px:pureD x=true
 rx:RepV ty w (fun b=>b<w.heap.size∧ ¬X b∧b≠O∧b≠A∧blk≠some b) v x
 oa:O≠A
 xo: ¬X O
 xa: ¬X A
 bl:∀ b,blk=some b→b≠O∧b≠A∧ ¬X b∧b<w.heap.size
 xl:∀ b,X b→b<w.heap.size
 ho:∃ t,w.heap[O]? =some (.cells #[slv] t (0,0))
 ha:∃ t,w.heap[A]? =some (.cells #[cloV g O A] t (0,0))
 hk:ty e=some k
 row:RowR ty w (fun b=>b<w.heap.size∧ ¬X b∧b≠O∧b≠A∧blk≠some b) k slv blk els nb
structure PostW (ty:TypeId→Option Vk) (g:FuncId) (e:TypeId) (rs:List D) (w w':World) (r:Value) (O A:Nat) (blk:Option Nat) (k:Vk) (X:Nat→Prop) (n:Int) (nb':Bool) (els':List D) (slv':Value) (blk':Option Nat):Prop where
 rs:rs=[.int .i64 n,.ov e nb' els']
 r:r= .int .i64 n
 ho:∃ t,w'.heap[O]? =some (.cells #[slv'] t (0,0))
 ha:∃ t,w'.heap[A]? =some (.cells #[cloV g O A] t (0,0))
 row:RowR ty w' (fun b=>b<w'.heap.size∧ ¬X b∧b≠O∧b≠A∧blk'≠some b) k slv' blk' els' nb'
 bl:∀ b,blk'=some b→(w.heap.size≤b∨blk=some b)∧b<w'.heap.size∧b≠O∧b≠A∧ ¬X b
 tape:w'.tape=w.tape
 os:w'.os=w.os
 out:w'.output=w.output
 size:w.heap.size≤w'.heap.size
 frame:∀ b,b<w.heap.size→b≠O→b≠A→blk≠some b→w'.heap[b]? =w.heap[b]?
def SoundW (P:Program) (ty:TypeId→Option Vk) (g:FuncId) (e:TypeId) (f:List D→Option (List D)):Prop:=
 ∀ x nb els rs,f [x,.ov e nb els]=some rs→∀ (w:World) (v slv:Value) (O A:Nat) (blk:Option Nat) (k:Vk) (X:Nat→Prop),PreW ty g e x nb els w v slv O A blk k X→
  Calls P g #[v,.pointer (some ⟨O,0,none⟩),.pointer (some ⟨A,0,none⟩)] w fun
   | .returned r,w'=>∃ n nb' els' slv' blk',PostW ty g e rs w w' r O A blk k X n nb' els' slv' blk'
   |_,_=>False
structure SoundCallW (P:Program) (E:Env):Prop where
 S:∀ g e,E.wty g=some e→SoundW P E.ty g e (E.call g)
 B:∀ g e,E.wty g=some e→∃ fn,P.funcs[g]? =some fn∧(fn.name== "runtime.NumGoroutine")=false∧fn.body.isNone=false∧(E.ty e).isSome=true
theorem pQ:∀ {l:List D} {ids:List Nat},kY l=some ids→l=ids.map (fun i=> .ptr i 0)
 |[],ids,h=>by simp[kY]at h;subst h;rfl
 |d::l,ids,h=>by
  cases d with
  |ptr id off=>
   cases off with
   |zero=>
    simp only[kY]at h
    split at h
    ·rename_i l' hl
     cases h
     rw[pQ hl];rfl
    ·cases h
   |succ n=>simp[kY]at h
  |_=>simp[kY]at h
section
variable {C:Cx} {P:Program} {E:Env} {a:Act} {st:St} {G:Gh} {w:World} {o:Oper} {V:Vw}
theorem AQ {tm:Array Value} {ρ:Operand→Value} (h:Rel C tm st G w) (hv:HV C st G w ρ) {g:FuncId} {first cap:Array Operand} {as:List Opd} {ids:List Nat}
  (aW:o.op= .makeFunc (.func g) first cap) (hf:first.isEmpty=true) (hc:eB cap.toList as=true) (hp:kY (as.map (Opd.val st.ts))=some ids):co C tm st G w (.fnr g ids) [] ((execOp ρ o).run P w):=by
 obtain⟨h1,h2,h3⟩:=uA hv hc
 have e0:=pQ hp
 have he:first= #[]:=by simpa using hf
 have hl:(as.map (Opd.val st.ts)).length=ids.length:=by rw[e0];simp
 refine⟨.func (.func g) #[] (cap.map ρ),w,G,.inl ?_,h, ?_,fun id hid=> ?_,fun _ _=>rfl⟩
 ·simp[execOp,aW,Instr.makeFunc,he]
 ·refine⟨cap.map ρ,rfl,by rw[h1,hl],fun j hj=> ?_⟩
  have:=h2 j (by omega)
  rw[e0]at this
  have e1:(ids.map (fun i=>D.ptr i 0)).getD j .undef= .ptr (ids.getD j 0) 0:=by simp[zq1,hj]
  rw[e1]at this
  obtain⟨_,h5⟩:=this
  show match oAt st.os (ids.getD j 0)with | .var _=>(cap.map ρ).getD j undef=(G (ids.getD j 0)).1 |_=>True
  cases e2:oAt st.os (ids.getD j 0)with
  |var n=>
   rw[e2]at h5
   obtain⟨g',q1,q2⟩:=h5
   rw[q1,q2]
  |_=>trivial
 ·have hid:id∈ids:=hid
  refine h3 (.ptr id 0) ?_ id (by simp[refsD,refs1,refs0])
  rw[e0]
  exact List.mem_map.2 ⟨id,hid,rfl⟩
theorem one_cell {cells:Array Value} (h:cells.size=1):cells= #[cells.getD 0 undef]:=by
 apply Array.ext
 ·simp[h]
 ·intro i h1 h2
  obtain rfl:i=0:=by omega
  simp[zq2,h1]
theorem cloW_of {os:List Obj} {v:Value} {g:FuncId} {i j:Nat} {O A:Nat} {n m:Nat} (h:RepT0 C os G w v (.fnr g [i,j])) (hi:oAt os i= .var n) (hj:oAt os j= .var m) (ho:(G i).1= .pointer (some ⟨O,0,none⟩)) (ha:(G j).1= .pointer (some ⟨A,0,none⟩)):v=cloV g O A:=by
 obtain⟨caps,rfl,hs,hc⟩:=h
 have c0:=hc 0 (by simp)
 have c1:=hc 1 (by simp)
 simp only[List.getD_cons_zero,List.getD_cons_succ,hi,hj,ho,ha]at c0 c1
 have:caps= #[.pointer (some ⟨O,0,none⟩),.pointer (some ⟨A,0,none⟩)]:=by
  apply Array.ext
  ·simpa using hs
  ·intro q h1 h2
   have:q=0∨q=1:=by simp at h2;omega
   rcases this with rfl |rfl
   ·simpa[zq2,h1]using c0
   ·simpa[zq2,h1]using c1
 rw[this];rfl
theorem tE {os:List Obj} {v:Value} {d:D} (h:RepT C os G w v d) (hp:pureD d=true):RepV C.ty w (okB C os G w) v d:=by
 cases d with
 |agg cs=>
  obtain⟨cells,rfl,h1,h2⟩:=h
  simp only[pureD,List.all_eq_true]at hp
  exact .agg cells _ h1 fun j hj=>(h2 j hj).toV (hp _ (mem_getD hj))
 |tup _=>simp[pureD,pure0]at hp
 |_=>exact RepT0.toV h (by simp only[pureD,zq3]at hp;exact hp.1)
theorem rowIn_spec (h:Rel C a.tmps st G w) (hV:∀ id o,V id=o→o≠ .dead→st.os[id]? =some o) {e:TypeId} {c:D} {nb:Bool} {els:List D} {ws:Wr} {v:Value} {k:Vk} (hk:C.ty e=some k) (hr:RepT0 C st.os G w v c) (hi:nA V e c=some (nb,els,ws)):
  ∃ blk,RowR C.ty w (okB C st.os G w) k v blk els nb∧((ws=[]∧blk=none)∨∃ id n,c= .own e id n∧ws=[(id,.gone)]∧st.os[id]? =some (.arr e nb els)∧blk=(G id).2):=by
 cases c with
 |own e' id n=>
  simp only[nA]at hi
  split at hi
  ·rename_i e2 nb' els' ho
   split at hi
   ·rename_i hee
    obtain⟨rfl,rfl⟩:=hee
    simp only[zq5,Prod.mk.injEq]at hi
    obtain⟨rfl,rfl,rfl⟩:=hi
    have hid:=hV id _ ho (by simp)
    obtain⟨k',k1,k2⟩:=objRel_row.1 (h.os id _ hid)
    rw[hk]at k1
    cases k1
    simp only[RepT0,oAt_of hid,oSh]at hr
    refine⟨(G id).2, ?_,.inr ⟨id,n,rfl,rfl,hid,rfl⟩⟩
    rw[hr.2.2.2]
    exact k2
   ·cases hi
  ·cases hi
 |zs e' nb'=>
  simp only[nA]at hi
  split at hi
  ·rename_i hee
   subst hee
   simp only[zq5,Prod.mk.injEq]at hi
   obtain⟨rfl,rfl,rfl⟩:=hi
   simp only[RepT0]at hr
   refine⟨none, ?_,.inl ⟨rfl,rfl⟩⟩
   cases hr with
   |zsnil=>exact⟨[],⟨by simp,.inl ⟨rfl,rfl,none,rfl,rfl,fun x hx=>by cases hx⟩⟩,fun d hd=>(by cases hd),fun i j hi=>(by simp at hi)⟩
   |zs e ad k' hk' hsp=>exact⟨[],⟨by simp,.inl ⟨rfl,rfl,some ad,rfl,rfl,fun x hx=>by cases hx;exact hsp⟩⟩,fun d hd=>(by cases hd),fun i j hi=>(by simp at hi)⟩
  ·cases hi
 |_=>simp[nA]at hi
theorem yo (h:Rel C a.tmps st G w) (hE:E.ty=C.ty) (hV:∀ id o,V id=o→o≠ .dead→st.os[id]? =some o) (hv:HV C st G w a.eval) (hW:SoundCallW P E) {s row:Nat} (hsd:st.os[s]? =some .dead)
  {c:Call} {f x:Operand} {a0 a1:Opd} {v:D} {ws:Wr} (aW:o.op= .call c) (Cz:c.callee= .value f) (lk:c.args= #[x]) (hf:bM f a0=true) (hx:bM x a1=true)
  (he:kZ KS E s row V [a0.val st.ts,a1.val st.ts]=some (v,ws)):Cv C P a st G w o v ws:=by
 unfold kZ at he
 split at he
 case h_2=>cases he
 rename_i g oi ai xd heq
 simp only[List.cons.injEq,and_true]at heq
 obtain⟨h0,h1⟩:=heq
 split at he
 case h_2=>cases he
 rename_i e c0 g' o' a' IF JE L9
 split at he
 case h_2=>cases he
 rename_i jd
 simp only[zq3,decide_eq_true_eq]at jd
 obtain⟨⟨⟨rfl,rfl,rfl,IC⟩,AR⟩,hrow⟩:=jd
 split at he
 case h_2=>cases he
 rename_i nb els ws0 hri
 cases hrs:E.call g' [xd,.ov e nb els]with
 |none=>simp[hrs]at he
 |some rs=>
 simp only[hrs,Option.bind_some,zq5,Prod.mk.injEq]at he
 obtain⟨rfl,rfl⟩:=he
 obtain⟨fn,b1,b2,b3,b4⟩:=hW.B g' e IF
 rw[hE]at b4
 obtain⟨k,hk⟩:=Option.isSome_iff_exists.1 b4
 have hVo':=hV o' _ JE (by simp)
 have nd:=hV a' _ L9 (by simp)
 obtain⟨gO,cellsO,tO,qo1,qo2,qo3,qo4⟩:=h.os o' _ hVo'
 obtain⟨gA,cellsA,tA,qa1,qa2,qa3,qa4⟩:=h.os a' _ nd
 have qo5:=one_cell (by simpa using qo3)
 have qa5:=one_cell (by simpa using qa3)
 have sho:oAt st.os o'= .var 1:=by rw[oAt_of hVo'];rfl
 have sha:oAt st.os a'= .var 1:=by rw[oAt_of nd];rfl
 have po:(G o').1= .pointer (some ⟨gO,0,none⟩):=by rw[qo1]
 have pa:(G a').1= .pointer (some ⟨gA,0,none⟩):=by rw[qa1]
 have rO:=(qo4 0 (by simp)).1
 have rA:=(qa4 0 (by simp)).1
 simp only[List.getD_cons_zero]at rO rA
 have eA:=cloW_of rA sho sha po pa
 rw[qo5]at qo2
 rw[qa5,eA]at qa2
 generalize cellsO.getD 0 undef=slv at qo2 rO
 have rf:=(hv f a0 hf).1
 rw[h0]at rf
 have ef:=cloW_of (C:=C) (w:=w) (os:=st.os) (show RepT0 C st.os G w (a.eval f) _ from rf) sho sha po pa
 have rx:=(hv x a1 hx).1
 rw[h1]at rx
 have JF:=tE rx AR
 obtain⟨blk,hrow1,hblk⟩:=rowIn_spec h hV hk rO hri
 have lbO:LB st.os G gO:=⟨o',_,hVo',rfl,by rw[qo1]⟩
 have lbA:LB st.os G gA:=⟨a',_,nd,rfl,by rw[qa1]⟩
 have lbB:∀ b,blk=some b→LB st.os G b∧b≠gO∧b≠gA:=by
  intro b hb
  rcases hblk with⟨_,rfl⟩ |⟨id,n,rfl,_,hid,rfl⟩
  ·cases hb
  ·refine⟨⟨id,_,hid,rfl,hb⟩,fun e1=> ?_,fun e1=> ?_⟩
   ·subst e1
    have:=h.inj id o' _ _ b hid hVo' rfl rfl hb (by rw[qo1])
    subst this
    rw[hid]at hVo';cases hVo'
   ·subst e1
    have:=h.inj id a' _ _ b hid nd rfl rfl hb (by rw[qa1])
    subst this
    rw[hid]at nd;cases nd
 have L_:gO≠gA:=fun e1=>IC (h.inj o' a' _ _ gO hVo' nd rfl rfl (by rw[qo1]) (by rw[qa1,e1]))
 have up:∀ b,okB C st.os G w b→b<w.heap.size∧ ¬(C.X b∨(LB st.os G b∧b≠gO∧b≠gA∧blk≠some b))∧b≠gO∧b≠gA∧blk≠some b:=by
  rintro b ⟨p1,p2,p3⟩
  refine⟨p1, ?_, ?_, ?_, ?_⟩
  ·rintro (h1 |h1)
   ·exact p3 h1
   ·exact p2 h1.1
  ·rintro rfl;exact p2 lbO
  ·rintro rfl;exact p2 lbA
  ·intro hb;exact p2 (lbB b hb).1
 have pre:PreW E.ty g' e xd nb els w (a.eval x) slv gO gA blk k (fun b=>C.X b∨(LB st.os G b∧b≠gO∧b≠gA∧blk≠some b)):={
  px:=AR
  rx:=by rw[hE];exact JF.mono up (fun _ _=>rfl)
  oa:=L_
  xo:=by rintro (h1 |h1);exact (h.inX gO lbO).1 h1;exact h1.2.1 rfl
  xa:=by rintro (h1 |h1);exact (h.inX gA lbA).1 h1;exact h1.2.2.1 rfl
  bl:=fun b hb=>⟨(lbB b hb).2.1,(lbB b hb).2.2,by rintro (h1 |h1);exact (h.inX b (lbB b hb).1).1 h1;exact h1.2.2.2 hb,(h.inX b (lbB b hb).1).2.1⟩
  xl:=by
   rintro b (h1 |h1)
   ·have:=(h.xw b h1).1;have:=h.size;omega
   ·exact (h.inX b h1.1).2.1
  ho:=⟨tO,qo2⟩
  ha:=⟨tA,qa2⟩
  hk:=by rw[hE];exact hk
  row:=by rw[hE];exact hrow1.mono up}
 have core:=hW.S g' e IF xd nb els rs hrs w (a.eval x) slv gO gA blk k _ pre
 intro ro hnd K Q hK
 have hrun:(execOp a.eval o).run P w= .ok (.enter g' #[a.eval x,.pointer (some ⟨gO,0,none⟩),.pointer (some ⟨gA,0,none⟩)]) w:=by
  have e0: #[a.eval x,.pointer (some ⟨gO,0,none⟩),.pointer (some ⟨gA,0,none⟩)]=c.args.map a.eval++ #[.pointer (some ⟨gO,0,none⟩),.pointer (some ⟨gA,0,none⟩)]:=by rw[lk];simp
  rw[e0]
  simp only[execOp,aW,resolve,Cz,ef,cloV,Deferred.ofValue,Sem.run_bind,Sem.run_pure,Result.andThen_ok,invoke,callFunc,run_program,b1,b2,b3,Bool.false_eq_true,if_false,Array.empty_append]
 refine⟨fun _ _=>trivial, ?_⟩
 rw[nK hnd,hrun,Oper.uponIn_enter]
 refine⟨fun h=>(by simp[wd]at h),callsIn_wd.2 (core.mono fun ee w' hR=> ?_)⟩
 cases ee with
 |panicked _=>exact hR.elim
 |outgrown=>exact hR.elim
 |returned r=>
 obtain⟨n,nb',els',slv',blk',post⟩:=hR
 obtain⟨tO',pO⟩:=post.ho
 obtain⟨tA',pA⟩:=post.ha
 obtain⟨rfl⟩:rs=[.int .i64 n,.ov e nb' els']:=post.rs
 have so:s≠o':=by rintro rfl;rw[hsd]at hVo';cases hVo'
 have sa:s≠a':=by rintro rfl;rw[hsd]at nd;cases nd
 have JG:s<st.os.length:=(zq6.1 hsd).1
 have JH:o'<st.os.length:=(zq6.1 hVo').1
 have Ma:a'<st.os.length:=(zq6.1 nd).1
 generalize ll:wrL st.os ws0=nI
 have ri:nI.length=st.os.length:=by rw[←ll,wrL_len]
 have h1:∀ i,nI[i]? =st.os[i]? ∨(nI[i]? =some .gone∧∃ nn,c0= .own e i nn∧st.os[i]? =some (.arr e nb els)∧blk=(G i).2):=by
  intro i
  rcases hblk with⟨rfl,_⟩ |⟨id,nn,rfl,rfl,hid,rfl⟩
  ·left;rw[←ll];rfl
  ·by_cases hi:id=i
   ·subst hi
    right
    refine⟨?_,nn,rfl,hid,rfl⟩
    rw[←ll]
    simp[wrL,(zq6.1 hid).1]
   ·left
    rw[←ll]
    simp[wrL,List.getElem?_set_ne hi]
 have Mb:nI[o']? =some (.var [c0]):=by
  rcases h1 o' with h2 |⟨_,nn,_,h3,_⟩
  ·rw[h2];exact hVo'
  ·rw[hVo']at h3;cases h3
 have Mc:nI[a']? =some (.var [.fnr g' [o',a']]):=by
  rcases h1 a' with h2 |⟨_,nn,_,h3,_⟩
  ·rw[h2];exact nd
  ·rw[nd]at h3;cases h3
 have Md:nI[s]? =some .dead:=by
  rcases h1 s with h2 |⟨_,nn,_,h3,_⟩
  ·rw[h2];exact hsd
  ·rw[hsd]at h3;cases h3
 have hws:wrL st.os (ws0++[(s,.arr e nb' els'),(o',.var [.own e s els'.length])])=(nI.set s (.arr e nb' els')).set o' (.var [.own e s els'.length]):=by
  rw[bO,ll];rfl
 generalize uO:(nI.set s (.arr e nb' els')).set o' (.var [.own e s els'.length])=hU at hws
 have HE:hU[o']? =some (.var [.own e s els'.length]):=by rw[←uO];simp[JH,ri]
 have F0:hU[s]? =some (.arr e nb' els'):=by rw[←uO,List.getElem?_set_ne (fun e1=>so e1.symm)];simp[JG,ri]
 have h2:∀ i,i≠o'→i≠s→hU[i]? =nI[i]? :=fun i i1 i2=>by rw[←uO,List.getElem?_set_ne (fun e1=>i1 e1.symm),List.getElem?_set_ne (fun e1=>i2 e1.symm)]
 have CB:hU.length=st.os.length:=by rw[←uO];simp[ri]
 have JI:hU[a']? =some (.var [.fnr g' [o',a']]):=by rw[h2 a' (fun e1=>IC e1.symm) (fun e1=>sa e1.symm)];exact Mc
 generalize hG2:(fun i=>if i=s then (slv',blk')else G i:Gh)=G2
 have CC:G2 s=(slv',blk'):=by rw[←hG2];simp
 have g2:∀ i,i≠s→G2 i=G i:=fun i hi=>by rw[←hG2];simp[hi]
 have Fb:=g2 o' (fun e1=>so e1.symm)
 have IG:=g2 a' (fun e1=>sa e1.symm)
 have JJ:∀ b,LB hU G2 b→b=gO∨b=gA∨blk'=some b∨(LB st.os G b∧b≠gO∧b≠gA∧blk≠some b):=by
  rintro b ⟨i,oi,hi,hl,hb⟩
  by_cases io:i=o'
  ·subst io;rw[Fb,qo1]at hb;cases hb;exact .inl rfl
  by_cases ia:i=a'
  ·subst ia;rw[IG,qa1]at hb;cases hb;exact .inr (.inl rfl)
  by_cases is:i=s
  ·subst is;rw[CC]at hb;exact .inr (.inr (.inl hb))
  ·rw[h2 i io is]at hi
   rw[g2 i is]at hb
   rcases h1 i with h3 |⟨h3,_⟩
   ·rw[h3]at hi
    refine .inr (.inr (.inr ⟨⟨i,oi,hi,hl,hb⟩,fun e1=> ?_,fun e1=> ?_,fun e1=> ?_⟩))
    ·exact io (h.inj i o' _ _ b hi hVo' hl rfl hb (by rw[qo1,e1]))
    ·exact ia (h.inj i a' _ _ b hi nd hl rfl hb (by rw[qa1,e1]))
    ·rcases hblk with⟨_,h4⟩ |⟨id,nn,hc,hw,hid,h4⟩
     ·rw[h4]at e1;cases e1
     ·rw[h4]at e1
      have:=h.inj i id _ _ b hi hid hl rfl hb e1
      subst this
      have h5:(wrL st.os ws0)[i]? =some .gone:=by rw[hw];simp[wrL,(zq6.1 hid).1]
      rw[ll,h3,hi]at h5
      cases h5
      cases hl
   ·rw[h3]at hi;cases hi;cases hl
 have JK:∀ b,(b<w'.heap.size∧ ¬(C.X b∨(LB st.os G b∧b≠gO∧b≠gA∧blk≠some b))∧b≠gO∧b≠gA∧blk'≠some b)→okB C hU G2 w' b:=by
  rintro b ⟨p1,p2,p3,p4,p5⟩
  refine⟨p1,fun hl=> ?_,fun hx=>p2 (.inl hx)⟩
  rcases JJ b hl with h3 |h3 |h3 |h3
  ·exact p3 h3
  ·exact p4 h3
  ·exact p5 h3
  ·exact p2 (.inr h3)
 have wz:RowR C.ty w' (okB C hU G2 w') k slv' blk' els' nb':=by
  have:=post.row
  rw[hE]at this
  exact this.mono JK
 have rel2:Rel C a.tmps ⟨st.ts,hU⟩ G2 w':=by
  refine Rel.many (os:=st.os) h CB (fun b=>b=gO∨b=gA∨blk=some b) (fun b hb=> ?_) (fun i p q hi hq=> ?_) (fun i j oi oj b hi CD yp hli hlj hbi hbj=> ?_) (fun b hb hn=> ?_) post.size post.tape post.os post.out
  ·rcases hb with rfl |rfl |hb
   ·exact lbO
   ·exact lbA
   ·exact (lbB b hb).1
  ·by_cases io:i=o'
   ·subst io
    rw[hVo']at hi;cases hi
    rw[HE]at hq;cases hq
    refine .wu rfl Fb (by simp[oSh]) rfl (fun j hj=> ?_) ⟨gO, #[slv'],tO',by rw[Fb];exact qo1,pO,rfl,fun j hj=> ?_⟩ (fun b hb=> .inl ?_)
    ·have:j=s:=by simpa[refsO,refsL,refs0,refsb]using hj
     subst this
     rw[zq1,F0];rfl
    ·obtain rfl:j=0:=by simpa using hj
     refine⟨?_,rfl⟩
     have:=own_rept (C:=C) (G:=G2) (w:=w') (rowR_len wz) (show oAt hU s= .row e els'.length by rw[oAt_of F0];rfl) (by rw[CC])
     exact this
    ·rw[qo1]at hb;cases hb;rfl
   by_cases ia:i=a'
   ·subst ia
    rw[nd]at hi;cases hi
    rw[JI]at hq;cases hq
    refine .wu rfl IG rfl rfl (fun j hj=> ?_) ⟨gA, #[cloV g' gO gA],tA',by rw[IG];exact qa1,pA,rfl,fun j hj=> ?_⟩ (fun b hb=> .inr (.inl ?_))
    ·have:j=o'∨j=i:=by simpa[refsO,refsL,refs0]using hj
     rcases this with rfl |rfl
     ·rw[zq1,HE];rfl
     ·rw[zq1,JI];rfl
    ·obtain rfl:j=0:=by simpa using hj
     refine⟨⟨_,rfl,rfl,fun q hq=> ?_⟩,rfl⟩
     have:q=0∨q=1:=by simp at hq;omega
     rcases this with rfl |rfl
     ·simp only[List.getD_cons_zero]
      rw[oAt_of HE,Fb,po];rfl
     ·simp only[List.getD_cons_succ,List.getD_cons_zero]
      rw[oAt_of JI,IG,pa];rfl
    ·rw[qa1]at hb;cases hb;rfl
   by_cases is:i=s
   ·subst is
    rw[hsd]at hi;cases hi
    rw[F0]at hq;cases hq
    refine .site rfl rfl rfl (objRel_row.2 ⟨k,hk,by rw[CC];exact wz⟩) (fun b hb=> ?_)
    rw[CC]at hb
    obtain⟨p1,p2,_⟩:=post.bl b hb
    exact⟨p1.imp id fun h3=> .inr (.inr h3),p2⟩
   ·rw[h2 i io is]at hq
    rcases h1 i with h3 |⟨h3,nn,hc,hid,_⟩
    ·rw[h3,hi]at hq
     cases hq
     refine .same rfl (g2 i is) (fun hl b hb hH=> ?_)
     have hlb:LB st.os G b:=⟨i,_,hi,hl,hb⟩
     have hq2:hU[i]? =some p:=by rw[h2 i io is,h3];exact hi
     rcases hH with e1 |e1 |e1
     ·exact io (h.inj i o' _ _ b hi hVo' hl rfl hb (by rw[qo1,e1]))
     ·exact ia (h.inj i a' _ _ b hi nd hl rfl hb (by rw[qa1,e1]))
     ·rcases hblk with⟨_,h4⟩ |⟨id,nn,hc,hw,hid,h4⟩
      ·rw[h4]at e1;cases e1
      ·rw[h4]at e1
       have:=h.inj i id _ _ b hi hid hl rfl hb e1
       subst this
       have h5:(wrL st.os ws0)[i]? =some .gone:=by rw[hw];simp[wrL,(zq6.1 hid).1]
       rw[ll,h3,hi]at h5
       cases h5
       cases hl
    ·rw[h3]at hq;cases hq
     rw[hi]at hid;cases hid
     exact .gone rfl rfl
  ·have is:i=s:=by
    by_cases is:i=s
    ·exact is
    by_cases io:i=o'
    ·subst io;rw[hVo']at hi;cases hi
    rw[h2 i io is]at CD
    rcases h1 i with h3 |⟨h3,_⟩
    ·rw[h3,hi]at CD;cases CD;cases hli
    ·rw[h3]at CD;cases CD;cases hli
   subst is
   rw[CC]at hbi
   by_cases js:j=i
   ·exact js.symm
   ·rw[g2 j js]at hbj
    obtain⟨p1,p2,p3,p4,p5⟩:=post.bl b hbi
    by_cases jo:j=o'
    ·subst jo;rw[qo1]at hbj;cases hbj;exact absurd rfl p3
    rw[h2 j jo js]at yp
    rcases h1 j with h3 |⟨h3,_⟩
    ·rw[h3]at yp
     have hlb:LB st.os G b:=⟨j,_,yp,hlj,hbj⟩
     rcases p1 with p1 |p1
     ·have:=(h.inX b hlb).2.1;omega
     ·rcases hblk with⟨_,h4⟩ |⟨id,nn,hc,hw,hid,h4⟩
      ·rw[h4]at p1;cases p1
      ·rw[h4]at p1
       have:=h.inj j id _ _ b yp hid hlj rfl hbj p1
       subst this
       have h5:(wrL st.os ws0)[j]? =some .gone:=by rw[hw];simp[wrL,(zq6.1 hid).1]
       rw[ll,h3,yp]at h5
       cases h5
       cases hlj
    ·rw[h3]at yp;cases yp;cases hlj
  ·have hn':b≠gO∧b≠gA∧blk≠some b:=⟨fun e1=>hn (.inl e1),fun e1=>hn (.inr (.inl e1)),fun e1=>hn (.inr (.inr e1))⟩
   exact post.frame b hb hn'.1 hn'.2.1 hn'.2.2
 have ev:(D.int .i64 (((([.int .i64 n,.ov e nb' els']:List D).getD 0 .undef).cell 0).i))= .int .i64 n:=rfl
 have e1:(([.int .i64 n,.ov e nb' els']:List D).getD 1 .undef).nb=nb':=rfl
 have e2:(([.int .i64 n,.ov e nb' els']:List D).getD 1 .undef).els=els':=rfl
 simp only[ev,e1,e2,hws]at hK
 refine hK r w' G2 rel2 ?_ (fun id hid=>by simp[refsD,refs1,refs0,refsb]at hid) (fun i hi=>g2 i ?_)
 ·rw[post.r];exact .int _ _
 ·rintro rfl
  rw[zq1,hsd]at hi
  cases hi
end
end
section
structure PreY (ty:TypeId→Option Vk) (e:TypeId) (x:D) (nb:Bool) (els:List D) (w:World) (v slv:Value) (O:Nat) (blk:Option Nat) (k:Vk) (X:Nat→Prop) (l:Nat) (rc:Loop):Prop where
 px:pureD x=true
 rx:RepV ty w (fun b=>b<w.heap.size∧ ¬X b∧b≠O∧blk≠some b) v x
 xo: ¬X O
 bl:∀ b,blk=some b→b≠O∧ ¬X b∧b<w.heap.size
 xl:∀ b,X b→b<w.heap.size
 ho:∃ t,w.heap[O]? =some (.cells #[slv] t (0,0))
 row:RowR ty w (fun b=>b<w.heap.size∧ ¬X b∧b≠O∧blk≠some b) k slv blk els nb
 lx:X l
 hl:w.heap[l]? =some (.loop rc)
structure PostY (ty:TypeId→Option Vk) (e:TypeId) (rs:List D) (w w':World) (O:Nat) (blk:Option Nat) (k:Vk) (X:Nat→Prop) (nb':Bool) (els':List D) (slv':Value) (blk':Option Nat):Prop where
 rs:rs=[.ov e nb' els']
 ho:∃ t,w'.heap[O]? =some (.cells #[slv'] t (0,0))
 row:RowR ty w' (fun b=>b<w'.heap.size∧ ¬X b∧b≠O∧blk'≠some b) k slv' blk' els' nb'
 bl:∀ b,blk'=some b→(w.heap.size≤b∨blk=some b)∧b<w'.heap.size∧b≠O∧ ¬X b
 tape:w'.tape=w.tape
 os:w'.os=w.os
 out:w'.output=w.output
 size:w.heap.size≤w'.heap.size
 frame:∀ b,b<w.heap.size→b≠O→blk≠some b→w'.heap[b]? =w.heap[b]?
def YOk (C:Cx) (P:Program) (E:Env):Prop:=∀ e f,E.yld=some (e,f)→∃ rc k,C.w0.heap[C.yl.1]? =some (.loop rc)∧C.X C.yl.1∧rc.params.size=1∧C.ty e=some k∧
 ∀ x nb els rs,f [x,.ov e nb els]=some rs→∀ (w:World) (v slv:Value) (O:Nat) (blk:Option Nat) (X:Nat→Prop),C.yl.2= .pointer (some ⟨O,0,none⟩)→PreY C.ty e x nb els w v slv O blk k X C.yl.1 rc→
  RoundIn (wd none) 0 P C.yl.1 rc.fn ((rc.params.zip #[v]).foldl (fun t (p,v)=>t.setIfInBounds p v) rc.tmps) rc.assign rc.body w fun
   | .returned r,w'=>r= .bool true∧∃ nb' els' slv' blk',PostY C.ty e rs w w' O blk k X nb' els' slv' blk'
   |_,_=>False
section
variable {C:Cx} {P:Program} {E:Env} {a:Act} {st:St} {G:Gh} {w:World} {o:Oper} {V:Vw}
theorem YOk.at (hY:YOk C P E) {tm:Array Value} (h:Rel C tm st G w) {M:Nat→Prop}:YOk ⟨C.ty,C.X,w,M,C.yl⟩ P E:=by
 intro e f hf
 obtain⟨rc,k,h1,h2,h3⟩:=hY e f hf
 obtain⟨x1,x2⟩:=h.xw _ h2
 exact⟨rc,k,(h.frame _ x1 x2).trans h1,h2,h3⟩
theorem turn_row {tm:Array Value} (h:Rel C tm st G w) {e:TypeId} {k:Vk} {c0:D} {nb:Bool} {els rs:List D} {blk:Option Nat} {o' gO s:Nat} {nb':Bool} {els':List D} {slv':Value} {blk':Option Nat} {ws0:Wr} {w':World} (hk:C.ty e=some k) (hVo':st.os[o']? =some (.var [c0]))
  (qo1:G o'=(.pointer (some ⟨gO,0,none⟩),some gO)) (hblk:(ws0=[]∧blk=none)∨∃ id n,c0= .own e id n∧ws0=[(id,.gone)]∧st.os[id]? =some (.arr e nb els)∧blk=(G id).2) (hsd:st.os[s]? =some .dead)
  (post:PostY C.ty e rs w w' gO blk k (fun b=>C.X b∨(LB st.os G b∧b≠gO∧blk≠some b)) nb' els' slv' blk'):
  ∃ G2,Rel C tm ⟨st.ts,wrL st.os (ws0++[(s,.arr e nb' els'),(o',.var [.own e s els'.length])])⟩ G2 w'∧∀ i,i≠s→G2 i=G i:=by
 have lbO:LB st.os G gO:=⟨o',_,hVo',rfl,by rw[qo1]⟩
 have lbB:∀ b,blk=some b→LB st.os G b∧b≠gO:=by
  intro b hb
  rcases hblk with⟨_,rfl⟩ |⟨id,n,rfl,_,hid,rfl⟩
  ·cases hb
  ·refine⟨⟨id,_,hid,rfl,hb⟩,fun e1=> ?_⟩
   subst e1
   have:=h.inj id o' _ _ b hid hVo' rfl rfl hb (by rw[qo1])
   subst this
   rw[hid]at hVo';cases hVo'
 obtain⟨tO',pO⟩:=post.ho
 have so:s≠o':=by rintro rfl;rw[hsd]at hVo';cases hVo'
 have JG:s<st.os.length:=(zq6.1 hsd).1
 have JH:o'<st.os.length:=(zq6.1 hVo').1
 generalize ll:wrL st.os ws0=nI
 have ri:nI.length=st.os.length:=by rw[←ll,wrL_len]
 have h1:∀ i,nI[i]? =st.os[i]? ∨(nI[i]? =some .gone∧∃ nn,c0= .own e i nn∧st.os[i]? =some (.arr e nb els)∧blk=(G i).2):=by
  intro i
  rcases hblk with⟨rfl,_⟩ |⟨id,nn,rfl,rfl,hid,rfl⟩
  ·left;rw[←ll];rfl
  ·by_cases hi:id=i
   ·subst hi
    right
    refine⟨?_,nn,rfl,hid,rfl⟩
    rw[←ll]
    simp[wrL,(zq6.1 hid).1]
   ·left
    rw[←ll]
    simp[wrL,List.getElem?_set_ne hi]
 have Mb:nI[o']? =some (.var [c0]):=by
  rcases h1 o' with h2 |⟨_,nn,_,h3,_⟩
  ·rw[h2];exact hVo'
  ·rw[hVo']at h3;cases h3
 have Md:nI[s]? =some .dead:=by
  rcases h1 s with h2 |⟨_,nn,_,h3,_⟩
  ·rw[h2];exact hsd
  ·rw[hsd]at h3;cases h3
 have hws:wrL st.os (ws0++[(s,.arr e nb' els'),(o',.var [.own e s els'.length])])=(nI.set s (.arr e nb' els')).set o' (.var [.own e s els'.length]):=by
  rw[bO,ll];rfl
 generalize uO:(nI.set s (.arr e nb' els')).set o' (.var [.own e s els'.length])=hU at hws
 have HE:hU[o']? =some (.var [.own e s els'.length]):=by rw[←uO];simp[JH,ri]
 have F0:hU[s]? =some (.arr e nb' els'):=by rw[←uO,List.getElem?_set_ne (fun e1=>so e1.symm)];simp[JG,ri]
 have h2:∀ i,i≠o'→i≠s→hU[i]? =nI[i]? :=fun i i1 i2=>by rw[←uO,List.getElem?_set_ne (fun e1=>i1 e1.symm),List.getElem?_set_ne (fun e1=>i2 e1.symm)]
 have CB:hU.length=st.os.length:=by rw[←uO];simp[ri]
 generalize hG2:(fun i=>if i=s then (slv',blk')else G i:Gh)=G2
 have CC:G2 s=(slv',blk'):=by rw[←hG2];simp
 have g2:∀ i,i≠s→G2 i=G i:=fun i hi=>by rw[←hG2];simp[hi]
 have Fb:=g2 o' (fun e1=>so e1.symm)
 have JJ:∀ b,LB hU G2 b→b=gO∨blk'=some b∨(LB st.os G b∧b≠gO∧blk≠some b):=by
  rintro b ⟨i,oi,hi,hl,hb⟩
  by_cases io:i=o'
  ·subst io;rw[Fb,qo1]at hb;cases hb;exact .inl rfl
  by_cases is:i=s
  ·subst is;rw[CC]at hb;exact .inr (.inl hb)
  ·rw[h2 i io is]at hi
   rw[g2 i is]at hb
   rcases h1 i with h3 |⟨h3,_⟩
   ·rw[h3]at hi
    refine .inr (.inr ⟨⟨i,oi,hi,hl,hb⟩,fun e1=> ?_,fun e1=> ?_⟩)
    ·exact io (h.inj i o' _ _ b hi hVo' hl rfl hb (by rw[qo1,e1]))
    ·rcases hblk with⟨_,h4⟩ |⟨id,nn,hc,hw,hid,h4⟩
     ·rw[h4]at e1;cases e1
     ·rw[h4]at e1
      have:=h.inj i id _ _ b hi hid hl rfl hb e1
      subst this
      have h5:(wrL st.os ws0)[i]? =some .gone:=by rw[hw];simp[wrL,(zq6.1 hid).1]
      rw[ll,h3,hi]at h5
      cases h5
      cases hl
   ·rw[h3]at hi;cases hi;cases hl
 have JK:∀ b,(b<w'.heap.size∧ ¬(C.X b∨(LB st.os G b∧b≠gO∧blk≠some b))∧b≠gO∧blk'≠some b)→okB C hU G2 w' b:=by
  rintro b ⟨p1,p2,p3,p5⟩
  refine⟨p1,fun hl=> ?_,fun hx=>p2 (.inl hx)⟩
  rcases JJ b hl with h3 |h3 |h3
  ·exact p3 h3
  ·exact p5 h3
  ·exact p2 (.inr h3)
 have wz:RowR C.ty w' (okB C hU G2 w') k slv' blk' els' nb':=post.row.mono JK
 have rel2:Rel C tm ⟨st.ts,hU⟩ G2 w':=by
  refine Rel.many (os:=st.os) h CB (fun b=>b=gO∨blk=some b) (fun b hb=> ?_) (fun i p q hi hq=> ?_) (fun i j oi oj b hi CD yp hli hlj hbi hbj=> ?_) (fun b hb hn=> ?_) post.size post.tape post.os post.out
  ·rcases hb with rfl |hb
   ·exact lbO
   ·exact (lbB b hb).1
  ·by_cases io:i=o'
   ·subst io
    rw[hVo']at hi;cases hi
    rw[HE]at hq;cases hq
    refine .wu rfl Fb (by simp[oSh]) rfl (fun j hj=> ?_) ⟨gO, #[slv'],tO',by rw[Fb];exact qo1,pO,rfl,fun j hj=> ?_⟩ (fun b hb=> .inl ?_)
    ·have:j=s:=by simpa[refsO,refsL,refs0,refsb]using hj
     subst this
     rw[zq1,F0];rfl
    ·obtain rfl:j=0:=by simpa using hj
     refine⟨?_,rfl⟩
     have:=own_rept (C:=C) (G:=G2) (w:=w') (rowR_len wz) (show oAt hU s= .row e els'.length by rw[oAt_of F0];rfl) (by rw[CC])
     exact this
    ·rw[qo1]at hb;cases hb;rfl
   by_cases is:i=s
   ·subst is
    rw[hsd]at hi;cases hi
    rw[F0]at hq;cases hq
    refine .site rfl rfl rfl (objRel_row.2 ⟨k,hk,by rw[CC];exact wz⟩) (fun b hb=> ?_)
    rw[CC]at hb
    obtain⟨p1,p2,_⟩:=post.bl b hb
    exact⟨p1.imp id fun h3=> .inr h3,p2⟩
   ·rw[h2 i io is]at hq
    rcases h1 i with h3 |⟨h3,nn,hc,hid,_⟩
    ·rw[h3,hi]at hq
     cases hq
     refine .same rfl (g2 i is) (fun hl b hb hH=> ?_)
     have hlb:LB st.os G b:=⟨i,_,hi,hl,hb⟩
     rcases hH with e1 |e1
     ·exact io (h.inj i o' _ _ b hi hVo' hl rfl hb (by rw[qo1,e1]))
     ·rcases hblk with⟨_,h4⟩ |⟨id,nn,hc,hw,hid,h4⟩
      ·rw[h4]at e1;cases e1
      ·rw[h4]at e1
       have:=h.inj i id _ _ b hi hid hl rfl hb e1
       subst this
       have h5:(wrL st.os ws0)[i]? =some .gone:=by rw[hw];simp[wrL,(zq6.1 hid).1]
       rw[ll,h3,hi]at h5
       cases h5
       cases hl
    ·rw[h3]at hq;cases hq
     rw[hi]at hid;cases hid
     exact .gone rfl rfl
  ·have is:i=s:=by
    by_cases is:i=s
    ·exact is
    by_cases io:i=o'
    ·subst io;rw[hVo']at hi;cases hi
    rw[h2 i io is]at CD
    rcases h1 i with h3 |⟨h3,_⟩
    ·rw[h3,hi]at CD;cases CD;cases hli
    ·rw[h3]at CD;cases CD;cases hli
   subst is
   rw[CC]at hbi
   by_cases js:j=i
   ·exact js.symm
   ·rw[g2 j js]at hbj
    obtain⟨p1,p2,p3,p5⟩:=post.bl b hbi
    by_cases jo:j=o'
    ·subst jo;rw[qo1]at hbj;cases hbj;exact absurd rfl p3
    rw[h2 j jo js]at yp
    rcases h1 j with h3 |⟨h3,_⟩
    ·rw[h3]at yp
     have hlb:LB st.os G b:=⟨j,_,yp,hlj,hbj⟩
     rcases p1 with p1 |p1
     ·have:=(h.inX b hlb).2.1;omega
     ·rcases hblk with⟨_,h4⟩ |⟨id,nn,hc,hw,hid,h4⟩
      ·rw[h4]at p1;cases p1
      ·rw[h4]at p1
       have:=h.inj j id _ _ b yp hid hlj rfl hbj p1
       subst this
       have h5:(wrL st.os ws0)[j]? =some .gone:=by rw[hw];simp[wrL,(zq6.1 hid).1]
       rw[ll,h3,yp]at h5
       cases h5
       cases hlj
    ·rw[h3]at yp;cases yp;cases hlj
  ·have hn':b≠gO∧blk≠some b:=⟨fun e1=>hn (.inl e1),fun e1=>hn (.inr e1)⟩
   exact post.frame b hb hn'.1 hn'.2
 rw[hws]
 exact⟨G2,rel2,g2⟩
theorem CE (h:Rel C a.tmps st G w) (hV:∀ id o,V id=o→o≠ .dead→st.os[id]? =some o) (hv:HV C st G w a.eval) (hY:YOk C P E) {s row:Nat} (hsd:st.os[s]? =some .dead)
  {c:Call} {f x:Operand} {a0 a1:Opd} {v:D} {ws:Wr} (aW:o.op= .call c) (Cz:c.callee= .value f) (lk:c.args= #[x]) (hf:bM f a0=true) (hx:bM x a1=true)
  (he:vT KS E s row V [a0.val st.ts,a1.val st.ts]=some (v,ws)):Cv C P a st G w o v ws:=by
 unfold vT at he
 split at he
 case h_2=>cases he
 rename_i o' xd heq
 simp only[List.cons.injEq,and_true]at heq
 obtain⟨h0,h1⟩:=heq
 split at he
 case h_2=>cases he
 rename_i e ff c0 IF JE
 split at he
 case h_2=>cases he
 rename_i jd
 simp only[zq3]at jd
 obtain⟨AR,hrow⟩:=jd
 split at he
 case h_2=>cases he
 rename_i nb els ws0 hri
 cases hrs:ff [xd,.ov e nb els]with
 |none=>simp[hrs]at he
 |some rs=>
 simp only[hrs,Option.bind_some,zq5,Prod.mk.injEq]at he
 obtain⟨rfl,rfl⟩:=he
 obtain⟨rc,k,y1,y2,y3,hk,y5⟩:=hY e ff IF
 have hVo':=hV o' _ JE (by simp)
 obtain⟨gO,cellsO,tO,qo1,qo2,qo3,qo4⟩:=h.os o' _ hVo'
 have qo5:=one_cell (by simpa using qo3)
 have sho:oAt st.os o'= .var 1:=by rw[oAt_of hVo'];rfl
 have po:(G o').1= .pointer (some ⟨gO,0,none⟩):=by rw[qo1]
 have rO:=(qo4 0 (by simp)).1
 simp only[List.getD_cons_zero]at rO
 rw[qo5]at qo2
 generalize cellsO.getD 0 undef=slv at qo2 rO
 have rf:=(hv f a0 hf).1
 rw[h0]at rf
 have rf0:RepT0 C st.os G w (a.eval f) (.yl o'):=rf
 simp only[RepT0,sho]at rf0
 obtain⟨ef,eo⟩:=rf0
 rw[po]at eo
 have rx:=(hv x a1 hx).1
 rw[h1]at rx
 have JF:=tE rx AR
 obtain⟨blk,hrow1,hblk⟩:=rowIn_spec h hV hk rO hri
 have lbO:LB st.os G gO:=⟨o',_,hVo',rfl,by rw[qo1]⟩
 have lbB:∀ b,blk=some b→LB st.os G b∧b≠gO:=by
  intro b hb
  rcases hblk with⟨_,rfl⟩ |⟨id,n,rfl,_,hid,rfl⟩
  ·cases hb
  ·refine⟨⟨id,_,hid,rfl,hb⟩,fun e1=> ?_⟩
   subst e1
   have:=h.inj id o' _ _ b hid hVo' rfl rfl hb (by rw[qo1])
   subst this
   rw[hid]at hVo';cases hVo'
 have up:∀ b,okB C st.os G w b→b<w.heap.size∧ ¬(C.X b∨(LB st.os G b∧b≠gO∧blk≠some b))∧b≠gO∧blk≠some b:=by
  rintro b ⟨p1,p2,p3⟩
  refine⟨p1, ?_, ?_, ?_⟩
  ·rintro (h1 |h1)
   ·exact p3 h1
   ·exact p2 h1.1
  ·rintro rfl;exact p2 lbO
  ·intro hb;exact p2 (lbB b hb).1
 have GV:w.heap[C.yl.1]? =some (.loop rc):=(h.frame _ (h.xw _ y2).1 (h.xw _ y2).2).trans y1
 have pre:PreY C.ty e xd nb els w (a.eval x) slv gO blk k (fun b=>C.X b∨(LB st.os G b∧b≠gO∧blk≠some b)) C.yl.1 rc:={
  px:=AR
  rx:=JF.mono up (fun _ _=>rfl)
  xo:=by rintro (h1 |h1);exact (h.inX gO lbO).1 h1;exact h1.2.1 rfl
  bl:=fun b hb=>⟨(lbB b hb).2,by rintro (h1 |h1);exact (h.inX b (lbB b hb).1).1 h1;exact h1.2.2 hb,(h.inX b (lbB b hb).1).2.1⟩
  xl:=by
   rintro b (h1 |h1)
   ·have:=(h.xw b h1).1;have:=h.size;omega
   ·exact (h.inX b h1.1).2.1
  ho:=⟨tO,qo2⟩
  row:=hrow1.mono up
  lx:= .inl y2
  hl:=GV}
 have core:=y5 xd nb els rs hrs w (a.eval x) slv gO blk _ eo.symm pre
 intro ro hnd K Q hK
 have hrun:(execOp a.eval o).run P w= .ok (.round C.yl.1 rc.fn ((rc.params.zip #[a.eval x]).foldl (fun t (p,v)=>t.setIfInBounds p v) rc.tmps) rc.assign rc.body) w:=by
  have hy:=run_yield (P:=P) (args:=c.args.map a.eval) GV (by rw[lk];simpa using y3.symm)
  have e2:c.args.map a.eval= #[a.eval x]:=by rw[lk];simp
  rw[e2]at hy
  simp only[execOp,aW,resolve,Cz,ef,Deferred.ofValue,Sem.run_bind,Sem.run_pure,Result.andThen_ok,invoke,lk]
  simpa using hy
 refine⟨fun _ _=>trivial, ?_⟩
 rw[nK hnd,hrun,Oper.uponIn_round]
 have HF:RoundIn (wd ro) (0 - 1) P C.yl.1 rc.fn ((rc.params.zip #[a.eval x]).foldl (fun t (p,v)=>t.setIfInBounds p v) rc.tmps) rc.assign rc.body w _:=core
 refine⟨fun h=>(by simp[wd]at h),HF.mono fun ee w' hR=> ?_⟩
 cases ee with
 |panicked _=>exact hR.elim
 |outgrown=>exact hR.elim
 |returned r=>
 obtain⟨hr,nb',els',slv',blk',post⟩:=hR
 obtain⟨rfl⟩:rs=[.ov e nb' els']:=post.rs
 obtain⟨G2,rel2,g2⟩:=turn_row h hk hVo' qo1 hblk hsd post
 have e1:(([.ov e nb' els']:List D).getD 0 .undef).nb=nb':=rfl
 have e2:(([.ov e nb' els']:List D).getD 0 .undef).els=els':=rfl
 simp only[e1,e2]at hK
 refine hK r w' G2 rel2 ?_ (fun id hid=>by simp[refsD,refs1,refs0,refsb]at hid) (fun i hi=>g2 i ?_)
 ·rw[hr];exact .bool _
 ·rintro rfl
  rw[zq1,hsd]at hi
  cases hi
end
end
section
section
variable {C:Cx} {P:Program} {E:Env} {tm:Array Value} {st:St} {G:Gh} {w:World} {ρ:Operand→Value} {o:Oper} {V:Vw}
theorem tF {os:List Obj} {v:Value} {d:D} {s:Sk} (h:RepT0 C os G w v d) (hf:fits s d=true):RepV C.ty w (okB C os G w) v d:=by
 cases s<;>cases d<;>simp[fits]at hf<;>(simp only[RepT0]at h;exact h)
theorem tG {os:List Obj} {k:Vk} {v:Value} {d:D} (h:RepT C os G w v d) (hf:k.fits d=true):RepV C.ty w (okB C os G w) v d:=by
 obtain⟨ag,ks⟩:=k
 cases ag with
 |true=>
  cases d<;>simp[Vk.fits]at hf
  rename_i ds
  simp only[RepT,RepT1]at h
  obtain⟨cs,rfl,h2,h3⟩:=h
  refine .agg cs ds h2 fun j hj=> ?_
  have hl:=(fitsL_spec hf).1
  exact tF (h3 j hj) ((fitsL_spec hf).2 j _ (zq4 (show j<ks.length by omega)))
 |false=>
  have hf':fitsL ks [d]=true:=by simpa[Vk.fits]using hf
  obtain⟨s,rfl⟩:∃ s,ks=[s]:=by
   have:=(fitsL_spec hf').1
   match ks,this with
   |[s],_=>exact⟨s,rfl⟩
   |[],h=>simp at h
   |_::_::_,h=>simp at h
  have f:fits s d=true:=by simpa[fitsL]using hf'
  have h0:RepT0 C os G w v d:=by
   cases d<;>first |exact h |(cases s<;>simp[fits]at f)
  exact tF h0 f
theorem ma {os:List Obj} {k:Vk} {v:Value} {d:D} (h:RepV C.ty w (okB C os G w) v d) (hf:k.fits d=true):RepT C os G w v d:=by
 have:=repT1_fits (os:=os) (G:=G) h hf
 cases d with
 |tup ds=>obtain⟨ag,ks⟩:=k;cases ag<;>simp[Vk.fits,fitsL,fits]at hf<;>(rcases ks with _ |⟨s,_ |_⟩<;>simp[fitsL]at hf<;>cases s<;>simp[fits]at hf)
 |_=>exact this
theorem rj {t:TypeId} {k e:Vk} (h:qP P t k e=true):∃ kt et,P.underlying t=some (.map kt et)∧eh P 20 kt=some k.ks∧isAggT P kt=some k.agg:=by
 unfold qP at h
 split at h
 ·rename_i kt et hu
  rw[zq3]at h
  obtain⟨h1,h2⟩:=h
  split at h1
  ·rename_i ks hk
   split at h2
   ·rename_i a ha
    simp only[beq_iff_eq]at h1 h2
    exact⟨kt,et,hu,by rw[hk,h1],by rw[ha,h2]⟩
   ·cases h2
  ·cases h1
 ·cases h
theorem qw {os:List Obj} {kt:TypeId} {k:Vk} (hk:eh P 20 kt=some k.ks) (ha:isAggT P kt=some k.agg) {v:Value} {d:D} (h:RepT C os G w v d) (hf:k.fits d=true):wt P C os G w kt k.ks v (cellsOf d):=by
 obtain⟨ag,ks⟩:=k
 cases ag with
 |true=>
  cases d<;>simp[Vk.fits]at hf
  rename_i ds
  simp only[RepT,RepT1]at h
  obtain⟨cs,rfl,h2,h3⟩:=h
  have hl:=(fitsL_spec hf).1
  refine⟨hf,cs,0, ?_, ?_,fun j hj=> ?_⟩
  ·simp only[cK,ha]
   simp[←hl,←h2]
  ·simp only[cellsOf];omega
  ·simpa[cellsOf]using h3 j hj
 |false=>
  have hf':fitsL ks [d]=true:=by simpa[Vk.fits]using hf
  obtain⟨s,rfl⟩:∃ s,ks=[s]:=by
   have:=(fitsL_spec hf').1
   match ks,this with
   |[s],_=>exact⟨s,rfl⟩
   |[],h=>simp at h
   |_::_::_,h=>simp at h
  have f:fits s d=true:=by simpa[fitsL]using hf'
  have h0:RepT0 C os G w v d:=by
   cases d<;>first |exact h |(cases s<;>simp[fits]at f)
  have xM:cellsOf d=[d]:=by cases d<;>first |rfl |(cases s<;>simp[fits]at f)
  rw[xM]
  refine⟨hf', #[v],0, ?_,by simp,fun j hj=> ?_⟩
  ·simp[cK,ha]
  ·have:j=0:=by simpa using hj
   subst this
   simpa using h0
theorem ne {os:List Obj} {kt:TypeId} {k:Vk} (hk:eh P 20 kt=some k.ks) (ha:isAggT P kt=some k.agg):∀ (es:List MapEntry) (ks:List D),es.length=ks.length→(∀ d,d∈ks→k.fits d=true)→
  (∀ i (h:i<es.length),RepV C.ty w (okB C os G w) es[i].key (ks.getD i .undef))→ka P C os G w kt k.ks es (ks.map cellsOf)
 |[],[],_,_,_=> .nil
 |e::es,d::ks,hl,hf,hr=> .cons (qw hk ha (ma (hr 0 (by simp)) (hf d (List.mem_cons_self ..))) (hf d (List.mem_cons_self ..)))
   (ne hk ha es ks (by simpa using hl) (fun d hd=>hf d (List.mem_cons_of_mem _ hd)) fun i hi=>by
    have:=hr (i+1) (by simpa using hi)
    simpa using this)
 |[],_::_,h,_,_=>by simp at h
 |_::_,[],h,_,_=>by simp at h
theorem nf (x y:D):∀ (es:List MapEntry) (ks vs:List D) (i0:Nat),es.length=ks.length→vs.length=ks.length→
  (lj (cellsOf x) (ks.map cellsOf) es i0=none∧mC x ks vs=none∧i9 x ks=ks++[x]∧jF x y ks vs=vs++[y])∨
  ∃ j,∃ hj:j<es.length,lj (cellsOf x) (ks.map cellsOf) es i0=some (i0+j,es[j].val)∧mC x ks vs=some (vs.getD j .undef)∧i9 x ks=ks∧jF x y ks vs=vs.set j y∧qe x (ks.getD j .undef)=true
 |[],[],vs,i0,_,h2=>by
  have:vs=[]:=List.length_eq_zero_iff.1 (by simpa using h2)
  subst this
  exact .inl ⟨rfl,rfl,rfl,rfl⟩
 |e::es,k::ks,vs,i0,h1,h2=>by
  obtain⟨v,vs,rfl⟩:∃ v t,vs=v::t:=by cases vs<;>simp at h2;exact⟨_,_,rfl⟩
  have Me:DE (cellsOf x) (cellsOf k)=qe x k:=rfl
  simp only[List.map_cons,lj,mC,i9,jF,Me]
  cases hb:qe x k
  ·rcases nf x y es ks vs (i0+1) (by simpa using h1) (by simpa using h2)with⟨a1,a2,a3,a4⟩ |⟨j,hj,a1,a2,a3,a4,a5⟩
   ·exact .inl ⟨a1,a2,by simp[a3],by simp[a4]⟩
   ·refine .inr ⟨j+1,by simp;omega, ?_, ?_, ?_, ?_, ?_⟩
    ·rw[a1];simp;omega
    ·simpa using a2
    ·simp[a3]
    ·simp[a4]
    ·simpa using a5
  ·exact .inr ⟨0,by simp,by simp,by simp,by simp,by simp,by simpa using hb⟩
 |[],_::_,_,_,h,_=>by simp at h
 |_::_,[],_,_,h,_=>by simp at h
theorem wA {ok:Nat→Prop} {k:Vk} (KT:∀ s,s∈k.ks→wq s=true) {u v:Value} {d:D} (h1:RepV C.ty w ok u d) (h2:RepV C.ty w ok v d) (hf:k.fits d=true):u=v∧∀ n,Instr.sameBits (n+1) v v=true:=by
 have sc:∀ (s:Sk) (x:D) (a b:Value),wq s=true→fits s x=true→RepV C.ty w ok a x→RepV C.ty w ok b x→a=b∧∀ n,Instr.sameBits n b b=true:=by
  intro s x a b hk hf r1 r2
  cases s<;>simp[wq]at hk<;>cases x<;>simp[fits]at hf<;>cases r1<;>cases r2<;>refine⟨rfl,fun n=> ?_⟩<;>cases n<;>simp[Instr.sameBits,beq_toListBytes]
 obtain⟨ag,ks⟩:=k
 cases ag with
 |true=>
  cases d<;>simp[Vk.fits]at hf
  rename_i ds
  cases h1 with
  |agg cs _ s1 r1=>
   cases h2 with
   |agg cs' _ s2 r2=>
    have hl:=(fitsL_spec hf).1
    have el:∀ j,j<ds.length→cs.getD j undef=cs'.getD j undef∧∀ n,Instr.sameBits n (cs'.getD j undef) (cs'.getD j undef)=true:=fun j hj=>
     sc ks[j] _ _ _ (KT _ (List.getElem_mem (show j<ks.length by omega))) ((fitsL_spec hf).2 j _ (zq4 (show j<ks.length by omega))) (r1 j hj) (r2 j hj)
    refine⟨?_,fun n=> ?_⟩
    ·congr 1
     apply Array.ext (by omega)
     intro j uB qf
     have:=(el j (by omega)).1
     simpa[zq2,uB,qf]using this
    ·simp only[Instr.sameBits,beq_self_eq_true,Bool.true_and,List.all_eq_true]
     rintro⟨x,y⟩ hm
     obtain⟨j,hj,e⟩:=List.getElem_of_mem hm
     simp at hj
     simp at e
     obtain⟨rfl,rfl⟩:=e
     have:=(el j (by omega)).2 n
     simpa[zq2,hj]using this
 |false=>
  have hf':fitsL ks [d]=true:=by simpa[Vk.fits]using hf
  obtain⟨s,rfl⟩:∃ s,ks=[s]:=by
   have:=(fitsL_spec hf').1
   match ks,this with
   |[s],_=>exact⟨s,rfl⟩
   |[],h=>simp at h
   |_::_::_,h=>simp at h
  have f:fits s d=true:=by simpa[fitsL]using hf'
  obtain⟨e1,e2⟩:=sc s d u v (KT s (by simp)) f h1 h2
  exact⟨e1,fun n=>e2 _⟩
theorem yq (h:Rel C tm st G w) {s:Nat} (hs:st.os[s]? =some .dead) {t:TypeId} {k e:Vk} (aW:o.op= .makeMap t none):co C tm st G w (.mo s) [(s,.mp k e [] [])] ((execOp ρ o).run P w):=by
 have hlt:s<st.os.length:=(zq6.1 hs).1
 have hrel:Rel C tm ⟨st.ts,st.os.set s (.mp k e [] [])⟩ (bx G s (.map (some w.heap.size),some w.heap.size)) (w.alloc (.map #[] 0)):=by
  refine h.newObj hs rfl (fun b hb=>by cases hb;simp) (fun b hb=>heap_alloc_old w _ b hb) (by simp) rfl rfl rfl ?_ (fun i hi=>by cases hi)
  exact⟨w.heap.size, #[],0,by simp[bx],heap_alloc_new w _,rfl,rfl,(by intro d hd;cases hd),(by intro d hd;cases hd),(by intro i hi;simp at hi),fe.empty 0⟩
 refine⟨.map (some w.heap.size),_,_,.inl ?_,hrel,⟨⟨_,rfl⟩, ?_⟩, ?_, ?_⟩
 ·simp[execOp,aW,Go.RowKit.run_makeMap]
 ·rw[iB,dE hlt]
  simp[oSh,bx]
 ·intro i hi
  simp[refsD,refs1,refs0,refsb]at hi
  subst hi
  simp[wrL,zq1,hlt,isDead]
 ·intro i hi
  simp[bx,j7 hs hi]
theorem CG (h:Rel C tm st G w) (hV:∀ id o,V id=o→o≠ .dead→st.os[id]? =some o) {id:Nat} {k e:Vk} {ks vs:List D} (hid:V id= .mp k e ks vs) {m:Value} (hm:RepT C st.os G w m (.mo id)):
  ∃ g es clock,st.os[id]? =some (.mp k e ks vs)∧G id=(.map (some g),some g)∧m= .map (some g)∧w.heap[g]? =some (.map es clock)∧es.size=ks.length∧vs.length=ks.length∧(∀ d,d∈ks→k.fits d=true)∧(∀ d,d∈vs→e.fits d=true)∧
   (∀ i (h:i<es.size),RepV C.ty w (okB C st.os G w) es[i].key (ks.getD i .undef)∧RepV C.ty w (okB C st.os G w) es[i].val (vs.getD i .undef))∧fe es clock:=by
 have hid':=hV id _ hid (by simp)
 obtain⟨g,es,clock,hg,r⟩:=h.os id _ hid'
 simp only[RepT,RepT1,RepT0,oAt_of hid',oSh]at hm
 exact⟨g,es,clock,hid',hg,by rw[hm.2,hg],r⟩
theorem AS (h:Rel C tm st G w) (hV:∀ id o,V id=o→o≠ .dead→st.os[id]? =some o) {t:TypeId} {x y:Operand} {k e:Vk} {z:D} {zv:Value} {ok:Bool} {dx dy v:D} {ws:Wr}
  (aW:o.op= .lookup t x y ok) (JL:qP P t k e=true) {kt et:TypeId} (hut:P.underlying t=some (.map kt et)) (hzr:(zeroValue et).run P w= .ok zv w) (hz:RepV C.ty w (okB C st.os G w) zv z) (GW:e.fits z=true)
  (hx:RepT C st.os G w (ρ x) dx) (hy:RepT C st.os G w (ρ y) dy) (he:s_ KS k e z ok V [dx,dy]=some (v,ws)):co C tm st G w v ws ((execOp ρ o).run P w):=by
 unfold s_ at he
 split at he
 case h_2=>cases he
 rename_i id d heq
 simp only[List.cons.injEq,and_true]at heq
 obtain⟨rfl,rfl⟩:=heq
 split at he
 case h_2=>cases he
 rename_i k' e' ks vs hid
 split at he
 case h_2=>cases he
 rename_i hb
 simp only[zq3,decide_eq_true_eq]at hb
 obtain⟨⟨rfl,rfl⟩,hf⟩:=hb
 obtain⟨g,es,clock,hid',hg,hm,hh,h1,h2,h3,h4,h5,hbo⟩:=CG h hV hid hx
 obtain⟨M8,M9,hu,hk,ha⟩:=rj JL
 rw[hut]at hu
 simp only[zq5,TypeDesc.map.injEq]at hu
 obtain⟨rfl,rfl⟩:=hu
 have GX:=qw hk ha hy hf
 have hks:=ne (os:=st.os) hk ha es.toList ks (by simpa using h1) h3 fun i hi=>by
  have:=(h5 i (by simpa using hi)).1
  simpa using this
 have F1:=pM (os:=st.os) hk (by decide) es.isEmpty GX
 have AU:=ra hk (by decide) GX es.toList _ hks
 have two:∀ (u:Value) (du:D) (b:Bool),RepV C.ty w (okB C st.os G w) u du→e'.fits du=true→RepT C st.os G w (.tuple #[u,.bool b]) (.tup [du,.bool b]):=fun u du b hu hf=>by
  refine⟨#[u,.bool b],rfl,rfl,fun j hj=> ?_⟩
  match j,hj with
  |0,_=>exact repT1_fits hu hf
  |1,_=>exact (RepV.bool b:RepV C.ty w (okB C st.os G w) (.bool b) (.bool b))
 have CH:∀ (du:D) (b:Bool),e'.fits du=true→∀ id,id∈refsD (.tup [du,.bool b])→isDead (st.os.getD id .gone)=false:=fun du b hf id hid=>by
  simp only[refsD,List.flatMap_cons,List.flatMap_nil,List.append_nil,rg hf,List.nil_append]at hid
  simp[refs1,refs0,refsb]at hid
 rcases nf dy dy es.toList ks vs 0 (by simpa using h1) h2 with⟨a1,a2,_,_⟩ |⟨j,hj,a1,a2,_,_,_⟩
 ·rw[a1]at AU
  rw[a2]at he
  cases ok
  ·simp only[KS,zq5,Prod.mk.injEq,Option.getD_none,etaV_self GW]at he
   obtain⟨rfl,rfl⟩:=he
   refine .val h (v':=zv) ?_ (ma hz GW) (fun id hid=>by rw[fits_refsD GW]at hid;cases hid)
   simp[execOp,aW,Instr.lookup,run_underlying hut,hm,Go.MapKept.run_getObj_map hh,F1,AU,hzr,Result.andThen]
  ·simp only[KS,zq5,Prod.mk.injEq,Option.getD_none,Option.isSome_none,etaV_self GW]at he
   obtain⟨rfl,rfl⟩:=he
   refine .val h (v':= .tuple #[zv,.bool false]) ?_ (two _ _ _ hz GW) (CH _ _ GW)
   simp[execOp,aW,Instr.lookup,run_underlying hut,hm,Go.MapKept.run_getObj_map hh,F1,AU,hzr,Result.andThen]
 ·rw[a1]at AU
  rw[a2]at he
  have hj':j<es.size:=by simpa using hj
  have CA:e'.fits (vs.getD j .undef)=true:=h4 _ (mem_getD (by omega))
  have hrv:=(h5 j hj').2
  have ev:es.toList[j].val=es[j].val:=by simp
  rw[ev]at AU
  cases ok
  ·simp only[KS,zq5,Prod.mk.injEq,Option.getD_some,etaV_self CA]at he
   obtain⟨rfl,rfl⟩:=he
   refine .val h (v':=es[j].val) ?_ (ma hrv CA) (fun id hid=>by rw[fits_refsD CA]at hid;cases hid)
   simp[execOp,aW,Instr.lookup,run_underlying hut,hm,Go.MapKept.run_getObj_map hh,F1,AU,hzr,Result.andThen]
  ·simp only[KS,zq5,Prod.mk.injEq,Option.getD_some,Option.isSome_some,etaV_self CA]at he
   obtain⟨rfl,rfl⟩:=he
   refine .val h (v':= .tuple #[es[j].val,.bool true]) ?_ (two _ _ _ hrv CA) (CH _ _ CA)
   simp[execOp,aW,Instr.lookup,run_underlying hut,hm,Go.MapKept.run_getObj_map hh,F1,AU,hzr,Result.andThen]
theorem AV (h:Rel C tm st G w) (hV:∀ id o,V id=o→o≠ .dead→st.os[id]? =some o) {t:TypeId} {x y z:Operand} {k e:Vk} {dx dy dz v:D} {ws:Wr}
  (aW:o.op= .mapUpdate t x y z) (JL:qP P t k e=true)
  (hx:RepT C st.os G w (ρ x) dx) (hy:RepT C st.os G w (ρ y) dy) (hz:RepT C st.os G w (ρ z) dz) (he:ta KS k e V [dx,dy,dz]=some (v,ws)):co C tm st G w v ws ((execOp ρ o).run P w):=by
 unfold ta at he
 split at he
 case h_2=>cases he
 rename_i id d1 d2 heq
 simp only[List.cons.injEq,and_true]at heq
 obtain⟨rfl,rfl,rfl⟩:=heq
 split at he
 case h_2=>cases he
 rename_i k' e' ks vs hid
 split at he
 case h_2=>cases he
 rename_i hb
 simp only[zq3,decide_eq_true_eq]at hb
 obtain⟨⟨⟨rfl,rfl⟩,hf⟩,DF⟩:=hb
 obtain⟨g,es,clock,hid',hg,hm,hh,h1,h2,h3,h4,h5,hbo⟩:=CG h hV hid hx
 obtain⟨kt,et,hut,hk,ha⟩:=rj JL
 have hlt:id<st.os.length:=(zq6.1 hid').1
 have HG:g<w.heap.size:=(Array.getElem?_eq_some_iff.1 hh).1
 have GX:=qw hk ha hy hf
 have hks:=ne (os:=st.os) hk ha es.toList ks (by simpa using h1) h3 fun i hi=>by
  have:=(h5 i (by simpa using hi)).1
  simpa using this
 have F1:=pM (os:=st.os) hk (by decide) false GX
 have AU:=ra hk (by decide) GX es.toList _ hks
 have ry:=tG hy hf
 have rz:=tG hz DF
 simp only[KS,zq5,Prod.mk.injEq]at he
 obtain⟨rfl,rfl⟩:=he
 suffices key:∃ zM lm,(Instr.mapUpdate t (.map (some g)) (ρ y) (ρ z)).run P w= .ok () {w with heap:=w.heap.setIfInBounds g (.map zM lm)}∧zM.size=(i9 dy ks).length∧(jF dy dz ks vs).length=(i9 dy ks).length∧
   (∀ d,d∈i9 dy ks→k'.fits d=true)∧(∀ d,d∈jF dy dz ks vs→e'.fits d=true)∧
   (∀ i (h:i<zM.size),RepV C.ty w (okB C st.os G w) zM[i].key ((i9 dy ks).getD i .undef)∧RepV C.ty w (okB C st.os G w) zM[i].val ((jF dy dz ks vs).getD i .undef))∧fe zM lm by
  obtain⟨zM,lm,hrun,s1,s2,s3,s4,s5,s6⟩:=key
  have hok:∀ b,okB C st.os G w b→okB C (st.os.set id (.mp k' e' (i9 dy ks) (jF dy dz ks vs))) (bx G id (G id)) {w with heap:=w.heap.setIfInBounds g (.map zM lm)} b:=by
   rintro b ⟨b1,b2,b3⟩
   refine⟨by simpa using b1,fun ⟨j,oj,hj,hl,hb⟩=>b2 ?_,b3⟩
   rw[List.getElem?_set]at hj
   by_cases e:id=j
   ·subst e
    simp only[bx,if_true]at hb
    exact⟨id,_,hid',rfl,hb⟩
   ·have e': ¬j=id:=fun x=>e x.symm
    simp only[e,if_false]at hj
    simp only[bx,e',if_false]at hb
    exact⟨j,oj,hj,hl,hb⟩
  have other:∀ b,b≠g→({w with heap:=w.heap.setIfInBounds g (.map zM lm)}:World).heap[b]? =w.heap[b]? :=fun b hb=>Array.getElem?_setIfInBounds_ne (fun e=>hb e.symm)
  have hS:Same (okB C st.os G w) w {w with heap:=w.heap.setIfInBounds g (.map zM lm)}:=fun b hb=>other b (fun e=>hb.2.1 ⟨id,_,hid',rfl,by rw[hg,e]⟩)
  have hrel:Rel C tm ⟨st.ts,st.os.set id (.mp k' e' (i9 dy ks) (jF dy dz ks vs))⟩ (bx G id (G id)) {w with heap:=w.heap.setIfInBounds g (.map zM lm)}:=by
   refine h.GK hid' (.inr ⟨rfl,.inl rfl⟩) rfl (fun _ b hb=> .inr ⟨rfl,hb⟩) (fun b hb hne=>other b (fun e=>hne ⟨rfl,by rw[hg,e]⟩)) (by simp) rfl rfl rfl ?_ (fun i hi=>by cases hi)
   exact⟨g,zM,lm,by simp[hg],by simp[Array.getElem?_setIfInBounds,HG],s1,s2,s3,s4,fun i hi=>⟨(s5 i hi).1.mono hok hS,(s5 i hi).2.mono hok hS⟩,s6⟩
  refine⟨undef,_,_,.inr ⟨rfl, ?_⟩,hrel,⟨#[],rfl,rfl,fun j hj=>by simp at hj⟩,fun i hi=>by simp[refsD]at hi,fun i _=>by simp only[bx];split<;>simp_all⟩
  simp[execOp,aW,hm,hrun]
 rcases nf dy dz es.toList ks vs 0 (by simpa using h1) h2 with⟨a1,_,a3,a4⟩ |⟨j,hj,a1,_,a3,a4,a5⟩
 ·rw[a1]at AU
  rw[a3,a4]
  refine⟨es.push ⟨ρ y,ρ z,clock⟩,clock+1, ?_,by simp[h1],by simp[h2],fun d hd=> ?_,fun d hd=> ?_,fun i hi=> ?_,hbo.push _ _⟩
  ·simp[Instr.mapUpdate,run_underlying hut,Go.MapKept.run_getObj_map hh,F1,AU,Go.MapKept.run_setObj_map _ hh,Result.andThen]
  ·rcases List.mem_append.1 hd with hd |hd
   ·exact h3 d hd
   ·simp at hd;rw[hd];exact hf
  ·rcases List.mem_append.1 hd with hd |hd
   ·exact h4 d hd
   ·simp at hd;rw[hd];exact DF
  ·simp only[Array.size_push]at hi
   by_cases hi':i<es.size
   ·have:=h5 i hi'
    simpa[Array.getElem_push,hi',zq1,List.getElem?_append,show i<ks.length by omega,show i<vs.length by omega]using this
   ·have e1:i=es.size:=by omega
    subst e1
    refine⟨?_, ?_⟩
    ·simpa[Array.getElem_push,zq1,h1]using ry
    ·simpa[Array.getElem_push,zq1,h1,h2]using rz
 ·rw[a1]at AU
  rw[a3,a4]
  have hj':j<es.size:=by simpa using hj
  have Fc:=h3 _ (mem_getD (show j<ks.length by omega))
  have same:ks.getD j .undef=dy:=by
   unfold qe at a5
   obtain⟨c,hc,GP⟩:=oZ k'.ks (cellsOf dy) (cellsOf (ks.getD j .undef)) (li 20 kt k'.ks hk) GX.1 (qw (os:=st.os) hk ha (ma (h5 j hj').1 Fc) Fc).1
   rw[hc]at a5
   have e1:=GP.1 a5
   obtain⟨ag,KU⟩:=k'
   revert e1 hf Fc
   generalize ks.getD j .undef=q
   intro e1 hf Fc
   cases ag
   ·have c1:cellsOf dy=[dy]:=by cases dy<;>first |rfl |(simp[Vk.fits]at hf;rcases KU with _ |⟨s,_ |_⟩<;>simp[fitsL]at hf;cases s<;>simp[fits]at hf)
    have c2:cellsOf q=[q]:=by cases q<;>first |rfl |(simp[Vk.fits]at Fc;rcases KU with _ |⟨s,_ |_⟩<;>simp[fitsL]at Fc;cases s<;>simp[fits]at Fc)
    rw[c1,c2]at e1
    simpa using e1.symm
   ·cases dy<;>simp[Vk.fits]at hf
    cases q<;>simp[Vk.fits]at Fc
    simp only[cellsOf]at e1
    rw[e1]
  have KV:=(h5 j hj').1
  rw[same]at KV
  obtain⟨kv,sb⟩:=wA (li 20 kt k'.ks hk) KV ry hf
  have hst:(Instr.keyThatStays es[j].key (ρ y)).run P w= .ok (ρ y) w:=by
   rw[kv]
   simp[Instr.keyThatStays,sb 9999]
  refine⟨es.modify j (fun e=>{e with key:=ρ y,val:=ρ z}),clock, ?_,by simp[h1],by simp[h2],h3,fun d hd=> ?_,fun i hi=> ?_,hbo.modify _ _ (fun _=>rfl)⟩
  ·have e0:((es[0+j]?).map (·.key)).getD (ρ y)=es[j].key:=by simp[hj']
   simp only[Nat.zero_add]at e0 AU
   simp[Instr.mapUpdate,run_underlying hut,Go.MapKept.run_getObj_map hh,F1,AU,hj',hst,Go.MapKept.run_setObj_map _ hh,Result.andThen]
  ·rcases List.mem_or_eq_of_mem_set hd with hd |hd
   ·exact h4 d hd
   ·rw[hd];exact DF
  ·simp only[Array.size_modify]at hi
   have:=h5 i hi
   by_cases e1:j=i
   ·subst e1
    refine⟨?_, ?_⟩
    ·rw[same];simpa[Array.getElem_modify]using ry
    ·simpa[Array.getElem_modify,zq1,show j<vs.length by omega]using rz
   ·simpa[Array.getElem_modify,e1,zq1,List.getElem?_set_ne e1]using this
theorem D6 {k:Vk} {zv:Value} {z:D} (hf:k.fits z=true) (ha:uu zv=k.agg) (hc:jr zv.cells.toList ((cellsOf z).map fun | .sl e true []=> .zs e true |d=>d)=true) (os:List Obj):RepV C.ty w (okB C os G w) zv z:=by
 obtain⟨z1,z2⟩:=Ck (C:=C) (w:=w) (ok:=okB C os G w) hc
 obtain⟨ag,ks⟩:=k
 cases ag with
 |true=>
  cases zv<;>simp[uu]at ha
  rename_i cs
  cases z<;>simp[Vk.fits]at hf
  rename_i ds
  refine .agg cs ds (by simpa[Value.cells,cellsOf]using z1) fun j hj=> ?_
  have:=(z2 j (by simpa[cellsOf]using hj)).1
  simpa[Value.cells,cellsOf,zq1,zq2]using this
 |false=>
  have xM:cellsOf z=[z]:=by cases z<;>first |rfl |(simp[Vk.fits]at hf;rcases ks with _ |⟨s,_ |_⟩<;>simp[fitsL]at hf;cases s<;>simp[fits]at hf)
  have Mf:zv.cells= #[zv]:=by cases zv<;>first |rfl |(simp[uu]at ha)
  have:=(z2 0 (by rw[xM];simp)).1
  rw[xM,Mf]at this
  simpa using this
end
end
section
section
variable {R:Type} (K:D→Wr→Option R)
abbrev aY (K:D→Wr→Option R) (x:Option (D×Wr)):Option R:=x.bind fun p=>K p.1 p.2
theorem yr (op:BinOp) (k:IntKind) (a b:Int):qJ K op k a b=aY K (qJ KS op k a b):=by
 cases op<;>simp only[qJ,aY,Option.bind_some,Option.bind_none]<;>split<;>rfl
theorem AW (op:BinOp) (k:IntKind) (a b:Int):s9 K op k a b=aY K (s9 KS op k a b):=by
 cases op<;>simp only[s9,aY,Option.bind_some,Option.bind_none]<;>split<;>rfl
theorem yt (op:BinOp) (a b:ByteArray):qK K op a b=aY K (qK KS op a b):=by
 cases op<;>simp only[qK,aY,Option.bind_some,Option.bind_none]<;>split<;>rfl
theorem CI (op:BinOp) (l:List D):Au K op l=aY K (Au KS op l):=by
 unfold Au
 split
 ·split
  ·exact AW ..
  ·split
   ·exact yr ..
   ·rfl
 ·exact yt ..
 ·rfl
theorem CJ (neg:Bool) (k:Vk) (l:List D):Av K neg k l=aY K (Av KS neg k l):=by
 unfold Av;repeat' split
 all_goals rfl
theorem yu (neg:Bool) (os:Vw) (l:List D):oL K neg os l=aY K (oL KS neg os l):=by
 unfold oL;repeat' split
 all_goals rfl
theorem AX (l:List D):vP K l=aY K (vP KS l):=by
 unfold vP;repeat' split
 all_goals rfl
theorem rk:∀ (zero:List D) (ps:List (Nat×Nat)) (l:List D),jV K zero ps l=aY K (jV KS zero ps l)
 |zero,[],[]=>rfl
 |zero,(off,n)::ps,d::ds=>by
  simp only[jV]
  split
  ·exact rk _ ps ds
  ·rfl
 |zero,[],_::_=>rfl
 |zero,_::_,[]=>rfl
theorem rl (k:Vk) (off:Nat) (cs:List D):iw K k off cs=aY K (iw KS k off cs):=by
 unfold iw;repeat' split
 all_goals rfl
theorem yv (k:Vk) (lo n i:Nat) (cs:List D):m0 K k lo n i cs=aY K (m0 KS k lo n i cs):=by
 unfold m0;repeat' split
 all_goals rfl
theorem AY (E:Env) (k:Vk) (os:Vw) (l:List D):gW K E k os l=aY K (gW KS E k os l):=by
 unfold gW;repeat' split
 all_goals first |rfl |exact rl .. |exact yv ..
theorem uP (E:Env) (k:Vk) (os:Vw) (id j off:Nat) (v:D):fc K E k os id j off v=aY K (fc KS E k os id j off v):=by
 unfold fc;simp only;repeat' split
 all_goals rfl
theorem yw (E:Env) (k:Vk) (os:Vw) (l:List D):kX K E k os l=aY K (kX KS E k os l):=by
 unfold kX;repeat' split
 all_goals first |rfl |exact uP ..
theorem CK (l h:Int) (os:Vw) (d:D):sM K l h os d=aY K (sM KS l h os d):=by
 unfold sM;repeat' split
 all_goals rfl
theorem AZ (os:Vw) (d:D):nz K os d=aY K (nz KS os d):=by
 unfold nz;repeat' split
 all_goals rfl
theorem ng (te:Option TypeId) (lo hi mx:Bool) (os:Vw) (l:List D):jW K te lo hi mx os l=aY K (jW KS te lo hi mx os l):=by
 unfold jW;repeat' split
 all_goals first |rfl |exact AZ .. |exact CK ..
theorem wB (te:Option TypeId) (lo hi:Bool) (os:Vw) (l:List D):qt K te lo hi os l=aY K (qt KS te lo hi os l):=by
 unfold qt
 conv=>lhs;rw[ng]
 conv=>rhs;arg 2;rw[ng]
 cases jW KS te lo hi false os l with
 |none=>rfl
 |some p=>
  obtain⟨v,ws⟩:=p
  simp only[aY,Option.bind_some]
  split<;>rfl
theorem CL (off:Nat) (l:List D):qM K off l=aY K (qM KS off l):=by
 unfold qM;repeat' split
 all_goals rfl
theorem A0 (k:Vk) (off:Nat) (l:List D):zr K k off l=aY K (zr KS k off l):=by
 unfold zr;repeat' split
 all_goals first |rfl |exact rl ..
theorem A1 (l:List D):tf K l=aY K (tf KS l):=by
 unfold tf;repeat' split
 all_goals rfl
theorem A2 (k:Vk) (n:Nat) (l:List D):zt K k n l=aY K (zt KS k n l):=by
 unfold zt;repeat' split
 all_goals rfl
theorem A3 (n:Nat) (l:List D):tg K n l=aY K (tg KS n l):=by
 unfold tg;repeat' split
 all_goals rfl
theorem yx (l:List D):oM K l=aY K (oM KS l):=by
 unfold oM;repeat' split
 all_goals rfl
theorem yy (E:Env) (e:TypeId) (os:Vw) (l:List D):oN K E e os l=aY K (oN KS E e os l):=by
 unfold oN;repeat' split
 all_goals rfl
theorem yz (s:Nat) (k e:Vk) (l:List D):qL K s k e l=aY K (qL KS s k e l):=by
 unfold qL;repeat' split
 all_goals rfl
theorem A4 (k e:Vk) (z:D) (ok:Bool) (os:Vw) (l:List D):s_ K k e z ok os l=aY K (s_ KS k e z ok os l):=by
 unfold s_;repeat' split
 all_goals rfl
theorem A5 (k e:Vk) (os:Vw) (l:List D):ta K k e os l=aY K (ta KS k e os l):=by
 unfold ta;repeat' split
 all_goals rfl
theorem A6 (e:TypeId) (l:List D):th K e l=aY K (th KS e l):=by
 unfold th;repeat' split
 all_goals rfl
theorem wC (E:Env) (s:Nat) (e:TypeId) (b:Nat) (os:Vw) (l:List D):i_ K E s e b os l=aY K (i_ KS E s e b os l):=by
 unfold i_;repeat' split
 all_goals rfl
theorem A7 (E:Env) (e:TypeId) (os:Vw) (l:List D):ti K E e os l=aY K (ti KS E e os l):=by
 unfold ti;repeat' split
 all_goals rfl
theorem yA (e:TypeId) (z:D) (os:Vw) (l:List D):ur K e z os l=aY K (ur KS e z os l):=by
 unfold ur;repeat' split
 all_goals rfl
theorem A8 (E:Env) (ss:List Nat) (os:Vw) (l:List D):pD K E ss os l=aY K (pD KS E ss os l):=by
 unfold pD
 split
 ·split
  ·rfl
  ·split
   ·rfl
   ·split
    ·simp only[aY]
     rename_i g caps args _ sg _ _ l' _ _ _
     cases E.call g l'<;>rfl
    ·rfl
 ·rfl
theorem A9 (f:FuncId) (l:List D):vS K f l=aY K (vS KS f l):=by
 unfold vS;repeat' split
 all_goals rfl
theorem yB (E:Env) (s r:Nat) (os:Vw) (l:List D):kZ K E s r os l=aY K (kZ KS E s r os l):=by
 unfold kZ
 split
 ·split
  ·split
   ·split
    ·rename_i g o a x _ _ _ e _ _ _ _ _ _ _ _ nb els ws _
     simp only[aY]
     cases E.call _ _<;>rfl
    ·rfl
   ·rfl
  ·rfl
 ·rfl
theorem CM (E:Env) (s r:Nat) (os:Vw) (l:List D):vT K E s r os l=aY K (vT KS E s r os l):=by
 unfold vT
 split
 ·rename_i o x
  split
  ·rename_i e f c _ _
   split
   ·split
    ·rename_i nb els ws _
     simp only[aY]
     cases f [x,.ov e nb els]<;>rfl
    ·rfl
   ·rfl
  ·rfl
 ·rfl
theorem A_ (s:Nat) (e:TypeId) (z:D) (b:Nat) (l:List D):zu K s e z b l=aY K (zu KS s e z b l):=by
 unfold zu;repeat' split
 all_goals rfl
theorem zN (mx:Bool) (l:List D):DO K mx l=aY K (DO KS mx l):=by
 unfold DO;repeat' split
 all_goals rfl
theorem wD (E:Env) (e:TypeId) (n:Nat) (os:Vw) (l:List D):lW K E e n os l=aY K (lW KS E e n os l):=by
 unfold lW;repeat' split
 all_goals rfl
theorem Ba (os:Vw) (l:List D):zn K os l=aY K (zn KS os l):=by
 unfold zn;repeat' split
 all_goals rfl
theorem Bb (os:Vw) (l:List D):zq K os l=aY K (zq KS os l):=by
 unfold zq;repeat' split
 all_goals rfl
theorem Bc (k:Vk) (os:Vw) (l:List D):zo K k os l=aY K (zo KS k os l):=by
 unfold zo;repeat' split
 all_goals rfl
theorem gd (E:Env) (op:vN) (l:List D) (os:Vw):cl K E op l os=aY K (cl KS E op l os):=by
 cases op with
 |pick=>exact AX ..
 |build z p=>exact rk ..
 |load k=>exact AY ..
 |store k=>exact yw ..
 |bin op=>exact CI ..
 |eqv n k=>exact CJ ..
 |qG n=>exact yu ..
 |slice e lo hi mx=>exact ng ..
 |qI e lo hi=>exact wB ..
 |aR off=>exact CL ..
 |part k off=>exact A0 ..
 |Aq=>exact A1 ..
 |DM k n=>exact A2 ..
 |aA e=>exact A6 ..
 |Ar n=>exact A3 ..
 |gV=>exact yx ..
 |qH e=>exact yy ..
 |append s e b=>exact wC ..
 |copy e=>exact A7 ..
 |clear e z=>exact yA ..
 |call ss=>exact A8 ..
 |BR s e z b=>exact A_ ..
 |mn=>exact zN K false l
 |mx=>exact zN K true l
 |mkMap s k e=>exact yz ..
 |As k e z ok=>exact A4 ..
 |At k e=>exact A5 ..
 |mZ e n=>exact wD ..
 |BS=>exact Ba ..
 |BT k=>exact Bc ..
 |BU=>exact Bb ..
 |BV f=>exact A9 ..
 |ku s r=>exact yB ..
 |yld s r=>exact CM ..
 |bad=>rfl
 |_=>simp only[cl];repeat' split
     all_goals rfl
end
abbrev xN (E:Env) (o:DOper) (st:St):Option (St×Lg):=BX E o st fun st lg=>some (st,lg)
abbrev stepS (E:Env) (o:DOper) (st:St):Option (St×Lg):=ja E o st fun st lg=>some (st,lg)
theorem D7 {R:Type} (E:Env) (o:DOper) (st:St) (K:St→Lg→Option R):BX E o st K=(xN E o st).bind fun p=>K p.1 p.2:=by
 unfold xN BX
 simp only
 split
 ·rw[gd,gd (R:=St×Lg)]
  simp only[aY]
  cases cl KS E o.op (o.args.map (Opd.val st.ts)) (jX st.os (k7 o.op (o.args.map (Opd.val st.ts))))with
  |none=>rfl
  |some p=>
   simp only[Option.bind_some]
   split<;>rfl
 ·rfl
theorem ip {R:Type} (E:Env) (o:DOper) (st:St) (K:St→Lg→Option R):ja E o st K=(stepS E o st).bind fun p=>K p.1 p.2:=by
 unfold stepS ja
 repeat' split
 all_goals first |rfl |exact D7 ..
end
section
section
variable {C:Cx} {P:Program} {E:Env} {a:Act} {st:St} {G:Gh} {w:World} {o:Oper} {V:Vw}
theorem HH (h:Rel C a.tmps st G w) (hE:E.ty=C.ty) (hT:vW C P) (hS:SoundCall P E) (hW:SoundCallW P E) (hY:YOk C P E) (hB:Bodies P E) (hV:∀ id o,V id=o→o≠ .dead→st.os[id]? =some o) {d:vN} {as:List Opd} {v:D} {ws:Wr}
  (hc:bj P C.ty o.op d as=true) (hsd:∀ s,s∈fN d→st.os[s]? =some .dead) (he:cl KS E d (as.map (Opd.val st.ts)) V=some (v,ws)):Cv C P a st G w o v ws:=by
 have hv:HV C st G w a.eval:=fun x y HI=>val_rep (df:=a.defers) h HI
 cases d with
 |mv=>
  simp only[bj]at hc
  split at hc
  ·rename_i x y aW
   simp only[List.map_cons,List.map_nil,cl]at he
   cases he
   exact (zy h (.inl aW) (hv _ _ hc)).op
  ·rename_i x y aW
   simp only[List.map_cons,List.map_nil,cl]at he
   cases he
   exact (zy h (.inr aW) (hv _ _ hc)).op
  ·cases hc
 |pick=>
  simp only[bj]at hc
  split at hc
  ·rename_i c x y c' x' y' aW
   simp only[zq3]at hc
   obtain⟨⟨c1,c2⟩,c3⟩:=hc
   simp only[List.map_cons,List.map_nil,cl]at he
   unfold vP at he
   split at he
   ·rename_i b u v' heq
    simp only[List.cons.injEq,and_true]at heq
    obtain⟨e1,rfl,rfl⟩:=heq
    have hb:=inv_bool (by have:=(hv _ _ c1).1;rw[e1]at this;exact this)
    have:=(Aw (P:=P) (o:=o) h aW hb (hv _ _ c2) (hv _ _ c3)).op
    cases b<;>(simp only at he;cases he;exact this)
   ·cases he
  ·cases hc
 |alloc s zero=>
  simp only[bj]at hc
  split at hc
  ·rename_i t aW
   simp only[List.map_nil,cl]at he
   cases he
   exact (ya h (hsd s (by simp[fN])) aW hc).op
  ·cases hc
 |box s=>
  simp only[bj]at hc
  split at hc
  ·rename_i t x y aW
   simp only[List.map_cons,List.map_nil,cl]at he
   split at he
   ·rename_i hcell
    cases he
    exact (Ca h (hsd s (by simp[fN])) aW hcell (hv _ _ hc)).op
   ·cases he
  ·cases hc
 |FG=>simp[bj]at hc
 |build zero ps=>
  simp only[bj]at hc
  split at hc
  ·rename_i t parts aW
   simp only[zq3]at hc
   exact (yb h hv aW hc.1.1 hc.1.2 hc.2 he).op
  ·cases hc
 |bn s e=>
  simp only[bj]at hc
  split at hc
  ·rename_i t n parts aW
   simp only[zq3,beq_iff_eq]at hc
   obtain⟨⟨⟨c1,c2⟩,c3⟩,c4⟩:=hc
   split at c4
   ·rename_i k i hk hi
    simp only[cl,hE,hk]at he
    split at he
    ·rename_i hfit
     cases he
     exact (uz (v:= .undef) (ws:=[]) h hT hV hv (hsd s (by simp[fN])) aW c1 c2 c3 hk (by simp only[hi];simpa using c4) hfit).op
    ·cases he
   ·cases c4
  ·cases hc
 |load k=>
  simp only[bj]at hc
  split at hc
  ·rename_i t x y aW
   simp only[zq3]at hc
   exact (AC h hE hV aW hc.1 (hv _ _ hc.2).1 he).op
  ·cases hc
 |store k=>
  simp only[bj]at hc
  split at hc
  ·rename_i t x y x' y' aW
   simp only[zq3]at hc
   exact (yc h hE hV aW hc.1.1 (hv _ _ hc.1.2).1 (hv _ _ hc.2) he).op
  ·cases hc
 |bin b=>
  simp only[bj]at hc
  split at hc
  ·rename_i b' t x y pos x' y' aW
   simp only[zq3,decide_eq_true_eq]at hc
   obtain⟨⟨rfl,c2⟩,c3⟩:=hc
   exact (BZ h aW (hv _ _ c2).1 (hv _ _ c3).1 he).op
  ·cases hc
 |eqv neg k=>
  simp only[bj]at hc
  split at hc
  ·rename_i b t x y pos x' y' aW
   simp only[zq3,beq_iff_eq,Bool.not_eq_true']at hc
   obtain⟨⟨⟨⟨⟨c1,c2⟩,c3⟩,c4⟩,c5⟩,c6⟩:=hc
   exact (B9 h neg aW c1 c4 c5 c6 (hv _ _ c2).1 (hv _ _ c3).1 he).op
  ·cases hc
 |qG neg=>
  simp only[bj]at hc
  split at hc
  ·rename_i b t x y pos x' aW
   simp only[zq3]at hc
   obtain⟨⟨c1,c2⟩,c3,c4⟩:=hc
   exact (xZ h hV neg aW c1 c2 c4 (fun c hy=>by subst hy;rfl) (hv _ _ c3).1 he).op
  ·cases hc
 |not=>
  simp only[bj]at hc
  split at hc
  ·rename_i t x y aW
   simp only[List.map_cons,List.map_nil,cl]at he
   split at he
   ·rename_i b heq
    simp only[List.cons.injEq,and_true]at heq
    cases he
    have:=(hv _ _ hc).1
    rw[heq]at this
    exact (B0 h aW this).op
   ·cases he
  ·cases hc
 |neg=>simp[bj]at hc
 |conv k=>
  simp only[bj]at hc
  split at hc
  ·rename_i s t x y aW
   simp only[zq3]at hc
   obtain⟨⟨c1,c2⟩,c3⟩:=hc
   simp only[List.map_cons,List.map_nil,cl]at he
   split at he
   ·rename_i k' n heq
    simp only[List.cons.injEq,and_true]at heq
    cases he
    have:=(hv _ _ c3).1
    rw[heq]at this
    exact (Ax h aW c1 c2 this).op
   ·cases he
  ·cases hc
 |bytes e=>simp[bj]at hc
 |slice te lo hi mx=>
  simp only[bj]at hc
  split at hc
  ·rename_i t x l hh m aW
   simp only[zq3,beq_iff_eq]at hc
   obtain⟨⟨⟨⟨⟨c1,c2⟩,c3⟩,c4⟩,c5⟩,c6⟩:=hc
   exact (ye h hV hT hv aW c1 c2 c3 (fun e=>by subst e;exact c4) c5 c6 he).op
  ·cases hc
 |qI te lo hi=>simp[bj]at hc
 |aR off=>
  simp only[bj]at hc
  split at hc
  ·rename_i s x f y aW
   simp only[zq3]at hc
   exact (B6 h aW hc.2 (hv _ _ hc.1) he).op
  ·rename_i t x ik i y aW
   simp only[zq3]at hc
   exact (Az h aW (fun c=>rfl) hc.2 (hv _ _ hc.1) he).op
  ·cases hc
 |part k off=>simp[bj]at hc
 |Aq=>
  simp only[bj]at hc
  split at hc
  ·rename_i t x i x' i' aW
   simp only[zq3]at hc
   exact (Ay h aW hc.1.1 (hv _ _ hc.1.2).1 (hv _ _ hc.2).1 he).op
  ·cases hc
 |DM k n=>simp[bj]at hc
 |aA e=>
  simp only[bj]at hc
  split at hc
  ·rename_i t x i x' i' aW
   simp only[zq3]at hc
   exact (AA h hT aW hc.1.1.1 hc.1.1.2 (hv _ _ hc.1.2) (hv _ _ hc.2).1 he).op
  ·cases hc
 |Ar n=>
  simp only[bj]at hc
  split at hc
  ·rename_i t x i x' i' aW
   simp only[zq3]at hc
   obtain⟨⟨c1,c2⟩,c3⟩:=hc
   split at c3
   ·rename_i m e hu
    simp only[zq3,beq_iff_eq]at c3
    obtain⟨c3,c4⟩:=c3
    subst c3
    exact (AM h aW hu c4 (hv _ _ c1) (hv _ _ c2).1 he).op
   ·cases c3
  ·cases hc
 |gV=>
  simp only[bj]at hc
  split at hc
  ·rename_i x a aW
   exact (yi h aW (hv _ _ hc) he).op
  ·cases hc
 |qH e=>simp[bj]at hc
 |ext j=>
  simp only[bj]at hc
  split at hc
  ·rename_i x j' y aW
   simp only[zq3,beq_iff_eq]at hc
   obtain⟨rfl,c2⟩:=hc
   simp only[List.map_cons,List.map_nil,cl]at he
   split at he
   ·rename_i ds heq
    simp only[List.cons.injEq,and_true]at heq
    split at he
    ·rename_i hlt
     cases he
     have:=hv _ _ c2
     rw[heq]at this
     exact (B1 h aW (by simpa using hlt) this.1 this.2).op
    ·cases he
   ·cases he
  ·cases hc
 |len=>
  simp only[bj]at hc
  split at hc
  ·rename_i args xK y aW
   split at hc
   ·rename_i x t ha ht
    simp only[zq3]at hc
    simp only[List.map_cons,List.map_nil,cl]at he
    split at he
    ·rename_i n hn
     cases he
     exact (B4 h aW ha ht hc.2 (hv _ _ hc.1).1 hn).op
    ·cases he
   ·cases hc
  ·cases hc
 |FF=>simp[bj]at hc
 |append s e GL=>
  simp only[bj]at hc
  split at hc
  ·rename_i args xK x' y' aW
   split at hc
   ·rename_i x y t u ha ht
    simp only[zq3]at hc
    obtain⟨⟨⟨⟨c1,c2⟩,c3⟩,c4⟩,c5⟩:=hc
    split at c5
    ·rename_i k i hk hi
     simp only[zq3,beq_iff_eq,decide_eq_true_eq]at c5
     exact (wo h hE hT hV (hsd s (by simp[fN])) aW ha ht c3 c4 hk hi c5.1.1 c5.1.2 c5.2 (hv _ _ c1).1 (hv _ _ c2).1 he).op
    ·cases c5
   ·cases hc
  ·cases hc
 |copy e=>simp[bj]at hc
 |clear e zero=>simp[bj]at hc
 |BV f=>
  simp only[bj]at hc
  split at hc
  ·rename_i g first cap aW
   simp only[zq3,beq_iff_eq]at hc
   obtain⟨⟨rfl,c2⟩,c3⟩:=hc
   simp only[cl,vS]at he
   split at he
   ·rename_i ids hp
    cases he
    exact (AQ h hv aW c2 c3 hp).op
   ·cases he
  ·cases hc
 |ku s row=>
  simp only[bj]at hc
  split at hc
  ·rename_i f args xK x0 a0 a1 aW
   split at hc
   ·rename_i x lk
    simp only[zq3]at hc
    exact yo h hE hV hv hW (hsd s (by simp[fN])) aW rfl (by
     apply Array.toList_inj.1
     simpa using lk) hc.1 hc.2 he
   ·cases hc
  ·cases hc
 |yld s row=>
  simp only[bj]at hc
  split at hc
  ·rename_i f args xK x0 a0 a1 aW
   split at hc
   ·rename_i x lk
    simp only[zq3]at hc
    exact CE h hV hv hY (hsd s (by simp[fN])) aW rfl (by
     apply Array.toList_inj.1
     simpa using lk) hc.1 hc.2 he
   ·cases hc
  ·cases hc
 |call ss=>
  simp only[bj]at hc
  split at hc
  ·rename_i f args xK x' M_ aW
   simp only[zq3]at hc
   exact AP h hE hV hv hS hB hsd aW rfl hc.1 hc.2 he
  ·cases hc
 |xR f=>
  simp only[bj]at hc
  split at hc
  ·rename_i g first cap aW
   simp only[zq3,beq_iff_eq]at hc
   obtain⟨⟨rfl,c2⟩,c3⟩:=hc
   simp only[cl]at he
   split at he
   ·rename_i hp
    cases he
    exact (AE h hV hv aW c2 c3 hp).op
   ·cases he
  ·cases hc
 |BR s e zero GL=>simp[bj]at hc
 |mZ e n=>simp[bj]at hc
 |BS=>simp[bj]at hc
 |BT k=>simp[bj]at hc
 |BU=>simp[bj]at hc
 |bad=>simp[cl]at he
 |mkMap s k e=>
  simp only[bj]at hc
  split at hc
  ·rename_i t aW
   simp only[cl,List.map_nil,qL,KS,zq5,Prod.mk.injEq]at he
   obtain⟨rfl,rfl⟩:=he
   exact (yq h (hsd s (by simp[fN])) aW).op
  ·cases hc
 |As k e z ok=>
  simp only[bj]at hc
  split at hc
  ·rename_i t x y sK a b aW
   simp only[zq3,beq_iff_eq]at hc
   obtain⟨⟨⟨⟨c1,c2⟩,c3⟩,rfl⟩,c4⟩:=hc
   split at c4
   ·rename_i kt et hut
    simp only[zq3]at c4
    obtain⟨d1,d2⟩:=c4
    split at d2
    ·rename_i i hi
     split at d2
     ·rename_i zv hz
      simp only[zq3,beq_iff_eq]at d2
      exact (AS h hV aW c3 hut (zv:=zv) (by simp[zeroValue,typeInfo,hi,hz]) (D6 d1 d2.2 d2.1 st.os) d1 (hv _ _ c1).1 (hv _ _ c2).1 he).op
     ·cases d2
    ·cases d2
   ·cases c4
  ·cases hc
 |At k e=>
  simp only[bj]at hc
  split at hc
  ·rename_i t x y z a b c aW
   simp only[zq3]at hc
   exact (AV h hV aW hc.2 (hv _ _ hc.1.1.1).1 (hv _ _ hc.1.1.2).1 (hv _ _ hc.1.2).1 he).op
  ·cases hc
 |mn=>
  simp only[bj]at hc
  split at hc
  ·rename_i args xK x' y' aW
   split at hc
   ·rename_i x y ha
    simp only[zq3]at hc
    exact (DT h false aW ha (hv _ _ hc.1).1 (hv _ _ hc.2).1 he).op
   ·cases hc
  ·rename_i args xK x' y' z' aW
   split at hc
   ·rename_i x y z ha
    simp only[zq3]at hc
    exact (B5 h false aW ha (hv _ _ hc.1).1 (hv _ _ hc.2.1).1 (hv _ _ hc.2.2).1 he).op
   ·cases hc
  ·cases hc
 |mx=>simp[bj]at hc
end
end
section
structure Mg (st st':St) (G G':Gh) (S:List Nat):Prop where
 g:∀ i,i∈S→G' i=G i
 d:∀ i,i∈S→isDead (st'.os.getD i .gone)=false
structure Ok (P:Program) (E:Env):Prop where
 T:∀ e k,E.ty e=some k→szOk P e k=true∧0<k.ks.length
 S:SoundCall P E
 W:SoundCallW P E
 B:Bodies P E
 mx:P.follows .mixedOrders=true
section
variable {C:Cx} {P:Program} {E:Env} {a:Act} {st st':St} {G:Gh} {w:World} {o:Oper}
theorem wrL_alive {i:Nat}:∀ {ws:Wr} {os:List Obj},(∀ p,p∈ws→isDead p.2=false)→isDead (os.getD i .gone)=false→isDead ((wrL os ws).getD i .gone)=false
 |[],os,_,h=>h
 |(j,o)::ws,os,hp,h=>by
  rw[wrL]
  exact wrL_alive (fun p hm=>hp p (List.mem_cons_of_mem _ hm)) (cJ (hp (j,o) (List.mem_cons_self ..)) h)
theorem set_bool {ts:List D} {g:Nat} {b:Bool} (h:ts.getD g .undef= .bool b):ts.set g (.bool b)=ts:=by
 apply List.ext_getElem?
 intro j
 rw[List.getElem?_set]
 split
 ·rename_i e
  subst e
  rw[zq1]at h
  split
  ·rename_i hl
   rw[zq4 hl]at h⊢
   simp at h
   rw[h]
  ·rename_i hl
   simp at hl
   simp[List.getElem?_eq_none hl]
 ·rfl
theorem rn (a:Act) (d:Option Tmp) (v:Value):(a.put d v).defers=a.defers:=by cases d<;>rfl
theorem tH (a:Act) {d:Option Tmp} {v:Value} {j:Nat} (h:∀ x,d=some x→j≠x):(a.put d v).tmps.getD j undef=a.tmps.getD j undef:=by
 cases d with
 |none=>rfl
 |some x=>
  have:=h x rfl
  simp[Act.put,zq2,Array.getElem?_setIfInBounds_ne (fun e=>this e.symm)]
theorem wE {ty:TypeId→Option Vk} {op:Op} {d:vN} {as:List Opd} (h:bj P ty op d as=true) {E:Env} {l:List D} {os:Vw} {p:D×Wr} (he:cl KS E d l os=some p):∀ c,op≠ .defer c:=by
 intro c e
 subst e
 cases d<;>first |(simp[cl]at he;done) |(simp[bj]at h;done)
theorem CN (hK:Ok P E) (hY:YOk C P E) (hE:E.ty=C.ty) (h:Rel C a.tmps st G w) {d:DOper} {lg:Lg} (yC:o.dst=d.dst) (hc:bj P C.ty o.op d.op d.args=true) (he:xN E d st=some (st',lg)) {ro:Option Nat} (K:Act→World→Prop) (Q:Exit→Act→World→Prop)
  (hQ:∀ v' w' G',Rel C (a.put o.dst v').tmps st' G' w'→(∀ i,isDead (st.os.getD i .gone)=false→G' i=G i∧isDead (st'.os.getD i .gone)=false)→K (a.put o.dst v') w'):o.wpIn (wd ro) 0 P a w K Q:=by
 unfold xN BX at he
 simp only at he
 split at he
 ·rename_i hsite
  rw[gd]at he
  simp only[aY]at he
  cases DD:cl KS E d.op (d.args.map (Opd.val st.ts)) (jX st.os (k7 d.op (d.args.map (Opd.val st.ts))))with
  |none=>simp[DD]at he
  |some p=>
   obtain⟨v,ws⟩:=p
   simp only[DD,Option.bind_some]at he
   split at he
   ·rename_i CO
    simp only[zq5,Prod.mk.injEq]at he
    obtain⟨rfl,rfl⟩:=he
    have hT:vW C P:=fun e k hk=>hK.T e k (by rw[hE];exact hk)
    refine HH h hE hT hK.S hK.W hY hK.B (fun id o hv hne=>(DR hv hne).1) hc (AD hsite) DD ro (wE hc DD) K Q (fun v' w' G' h1 h2 h3 h4=> ?_)
    refine hQ v' w' G' ?_ (fun i hi=>⟨h4 i hi,wrL_alive (fun p hp=> ?_) hi⟩)
    ·rw[yC]
     exact h1.putT (df:=a.defers) h2 h3
    ·have:=List.all_eq_true.1 CO p hp
     simp only[zq3,Bool.not_eq_true']at this
     exact this.2
   ·cases he
 ·cases he
theorem D8 (h:Rel C a.tmps st G w) {d:DOper} (yC:o.dst=d.dst):Rel C (a.put o.dst undef).tmps ⟨putT st.ts d.dst (.tup []),st.os⟩ G w:=by
 rw[yC]
 exact h.putT (df:=a.defers) (v:=undef) (d:= .tup []) ⟨#[],rfl,rfl,fun j hj=>by simp at hj⟩ (fun i hi=>by simp[refsD]at hi)
theorem CP (h:Rel C a.tmps st G w) {g:Nat} {d:D} (hd:st.ts.getD g .undef=d) (hne:d≠ .undef):∃ v,a.tmps[g]? =some v∧RepT C st.os G w v d:=by
 rw[zq1]at hd
 cases e:st.ts[g]? with
 |none=>rw[e]at hd;simp at hd;exact absurd hd.symm hne
 |some x=>
  rw[e]at hd
  simp at hd
  subst hd
  have hlt:=(zq6.1 e).1
  have gL:g<a.tmps.size:=by rw[h.tsz];exact hlt
  have:=h.ts g x e
  refine⟨a.tmps[g],Array.getElem?_eq_getElem gL, ?_⟩
  simpa[zq2,gL]using this
theorem zO (hK:Ok P E) (hY:YOk C P E) (hE:E.ty=C.ty) (h:Rel C a.tmps st G w) {ops:Array Oper} {d:DOper} {lg:Lg} (hc:jZ P C.ty ops o d=true) (he:stepS E d st=some (st',lg)) {ro:Option Nat} (K:Act→World→Prop) (Q:Exit→Act→World→Prop)
  (hQ:∀ v' w' G',Rel C (a.put o.dst v').tmps st' G' w'→(∀ i,isDead (st.os.getD i .gone)=false→G' i=G i∧isDead (st'.os.getD i .gone)=false)→K (a.put o.dst v') w'):
  if Region.wanted o (yielded ops a.tmps)then o.wpIn (wd ro) 0 P a w K Q else (∀ f,o.about P w a.eval=some f→(wd ro).fn f)∧K (a.put o.dst undef) w:=by
 simp only[jZ,zq3,beq_iff_eq]at hc
 obtain⟨⟨⟨c1,c2⟩,c3⟩,c4⟩:=hc
 unfold stepS ja at he
 split at he
 ·rename_i hg
  rw[hg]at c2
  have ho:o.guard=none:=by
   cases e:o.guard with
   |none=>rfl
   |some p=>rw[e]at c2;simp[nF]at c2
  rw[if_pos (by simp[Region.wanted,ho])]
  exact CN hK hY hE h c1 c3 he K Q hQ
 ·rename_i g us hg
  rw[hg]at c2
  obtain⟨j,b,ho,c5,c6⟩:∃ j b,o.guard=some (j,b)∧b=us∧(ops[j]?).bind (·.dst)=some g:=by
   cases e:o.guard with
   |none=>rw[e]at c2;simp[nF]at c2
   |some p=>
    obtain⟨j,b⟩:=p
    rw[e]at c2
    simp only[nF,zq3,beq_iff_eq]at c2
    exact⟨j,b,rfl,c2.1,c2.2⟩
  subst c5
  have yld:∀ x,st.ts.getD g .undef= .bool x→yielded ops a.tmps j=some x:=by
   intro x hx
   obtain⟨v,hv1,JM⟩:=CP h hx (by simp)
   rw[inv_bool JM]at hv1
   simp[yielded,c6,hv1]
  have F2:∀ {st1:St},st1=st→tj d st1 (fun st lg=>some (st,lg))=some (st',lg)→K (a.put o.dst undef) w:=by
   rintro st1 rfl hs
   simp only[tj,zq5,Prod.mk.injEq]at hs
   obtain⟨rfl,rfl⟩:=hs
   exact hQ undef w G (D8 h c1) (fun i hi=>⟨rfl,hi⟩)
  split at he
  ·rename_i x hx
   have hy:=yld x hx
   have hst:(⟨st.ts.set g (.bool x),st.os⟩:St)=st:=by rw[set_bool hx]
   cases b<;>cases x<;>simp only at he
   ·rw[if_pos (by simp[Region.wanted,ho,hy])]
    rw[hst]at he
    exact CN hK hY hE h c1 c3 he K Q hQ
   ·rw[if_neg (by simp[Region.wanted,ho,hy])]
    exact⟨fun _ _=>trivial,F2 hst he⟩
   ·rw[if_neg (by simp[Region.wanted,ho,hy])]
    exact⟨fun _ _=>trivial,F2 hst he⟩
   ·rw[if_pos (by simp[Region.wanted,ho,hy])]
    rw[hst]at he
    exact CN hK hY hE h c1 c3 he K Q hQ
  ·rename_i hx
   obtain⟨v,hv1,JM⟩:=CP h hx (by simp)
   obtain⟨vs,rfl,_⟩:=JM
   have hy:yielded ops a.tmps j=none:=by simp[yielded,c6,hv1]
   rw[if_neg (by simp[Region.wanted,ho,hy])]
   exact⟨fun _ _=>trivial,F2 rfl he⟩
  ·cases he
abbrev opsS (E:Env) (ds:List DOper) (st:St):Option (St×List Lg):=opsK E ds st fun st lg=>some (st,lg)
theorem opsK_nat {R:Type} (E:Env):∀ (ds:List DOper) (st:St) (K:St→List Lg→Option R),opsK E ds st K=(opsS E ds st).bind fun p=>K p.1 p.2
 |[],st,K=>rfl
 |d::ds,st,K=>by
  simp only[opsK,opsS]
  rw[ip,ip (R:=St×List Lg)]
  cases stepS E d st with
  |none=>rfl
  |some p=>
   simp only[Option.bind_some]
   rw[opsK_nat E ds,opsK_nat (R:=St×List Lg) E ds]
   cases opsS E ds p.1<;>rfl
theorem opsS_cons {E:Env} {d:DOper} {ds:List DOper} {st st':St} {lg:List Lg} (h:opsS E (d::ds) st=some (st',lg)):∃ st1 l lg1,stepS E d st=some (st1,l)∧opsS E ds st1=some (st',lg1)∧lg=l::lg1:=by
 simp only[opsS,opsK]at h
 rw[ip]at h
 cases e:stepS E d st with
 |none=>simp[e]at h
 |some p=>
  simp only[e,Option.bind_some]at h
  rw[opsK_nat]at h
  cases e2:opsS E ds p.1 with
  |none=>simp[e2]at h
  |some q=>
   simp only[e2,Option.bind_some,zq5,Prod.mk.injEq]at h
   obtain⟨rfl,rfl⟩:=h
   exact⟨p.1,p.2,q.2,rfl,e2,rfl⟩
structure Came (C:Cx) (a:Act) (st:St) (G:Gh) (ds:List Nat) (a':Act) (st':St) (G':Gh) (w':World):Prop where
 rel:Rel C a'.tmps st' G' w'
 df:a'.defers=a.defers
 live:∀ i,isDead (st.os.getD i .gone)=false→G' i=G i∧isDead (st'.os.getD i .gone)=false
 tm:∀ j,j∉ds→a'.tmps.getD j undef=a.tmps.getD j undef
theorem ops_ok (hK:Ok P E) (hY:YOk C P E) (hE:E.ty=C.ty) {ops:Array Oper} {ro:Option Nat} {Q:Exit→Act→World→Prop}:∀ (os:List Oper) (ds:List DOper),dK P C.ty ops os ds=true→∀ (a:Act) (st st':St) (G:Gh) (w:World) (lg:List Lg),Rel C a.tmps st G w→opsS E ds st=some (st',lg)→
  (∀ a' w' G',Came C a st G (ds.filterMap (·.dst)) a' st' G' w'→Q .normal a' w')→wpListIn (wd ro) 0 P ops Q os a w
 |[],[],_,a,st,st',G,w,lg,h,he,hQ=>by
  simp only[opsS,opsK,zq5,Prod.mk.injEq]at he
  obtain⟨rfl,rfl⟩:=he
  exact hQ a w G ⟨h,rfl,fun i hi=>⟨rfl,hi⟩,fun _ _=>rfl⟩
 |o::os,d::ds,hc,a,st,st',G,w,lg,h,he,hQ=>by
  simp only[dK,zq3]at hc
  obtain⟨st1,l,lg1,h1,h2,rfl⟩:=opsS_cons he
  have yC:o.dst=d.dst:=by
   have:=hc.1
   simp only[jZ,zq3,beq_iff_eq]at this
   exact this.1.1.1
  refine zO hK hY hE h hc.1 h1 (wpListIn (wd ro) 0 P ops Q os) Q (fun v' w' G' hr hl=> ?_)
  refine ops_ok hK hY hE os ds hc.2 _ st1 st' G' w' lg1 hr h2 (fun a' Mh Mi hc'=>hQ a' Mh Mi ⟨hc'.rel,hc'.df.trans (rn a _ _),fun i hi=> ?_,fun j hj=> ?_⟩)
  ·obtain⟨g1,g2⟩:=hl i hi
   obtain⟨g3,g4⟩:=hc'.live i g2
   exact⟨g3.trans g1,g4⟩
  ·rw[hc'.tm j fun hm=>hj ?_,tH a fun x hx=> ?_]
   ·rintro rfl
    exact hj (List.mem_filterMap.2 ⟨d,List.mem_cons_self ..,yC▸hx⟩)
   ·obtain⟨d',BL,E1⟩:=List.mem_filterMap.1 hm
    exact List.mem_filterMap.2 ⟨d',List.mem_cons_of_mem _ BL,E1⟩
 |[],_::_,hc,_,_,_,_,_,_,_,_,_=>by simp[dK]at hc
 |_::_,[],hc,_,_,_,_,_,_,_,_,_=>by simp[dK]at hc
end
end
section
theorem Bd {d:DOper} {st st2:St} (h:∀ j,j∈jY d→st2.ts.getD j .undef=st.ts.getD j .undef):d.args.map (Opd.val st2.ts)=d.args.map (Opd.val st.ts):=by
 apply List.map_congr_left
 intro x hx
 cases x with
 |c d=>rfl
 |t n=>exact h n (List.mem_append.2 (.inl (List.mem_filterMap.2 ⟨_,hx,rfl⟩)))
theorem wF {E:Env} {d:DOper} {st st':St} {lg:Lg} (h:xN E d st=some (st',lg)):∃ (v:D) (ws:Wr),lg.2=ws.map (·.1)∧(∀ x,x∈lg.2→x∈lg.1)∧
  ∀ st2:St,(∀ j,j∈jY d→st2.ts.getD j .undef=st.ts.getD j .undef)→(∀ i,i∈lg.1→st2.os[i]? =st.os[i]?)→st2.os.length=st.os.length→xN E d st2=some (⟨putT st2.ts d.dst v,wrL st2.os ws⟩,lg):=by
 unfold xN BX at h
 simp only at h
 split at h
 ·rename_i hsite
  rw[gd]at h
  simp only[aY]at h
  cases he:cl KS E d.op (d.args.map (Opd.val st.ts)) (jX st.os (k7 d.op (d.args.map (Opd.val st.ts))))with
  |none=>simp[he]at h
  |some p=>
   obtain⟨v,ws⟩:=p
   simp only[he,Option.bind_some]at h
   split at h
   ·rename_i hk
    simp only[zq5,Prod.mk.injEq]at h
    obtain⟨_,rfl⟩:=h
    refine⟨v,ws,rfl,fun x hx=> ?_,fun st2 h1 h2 h3=> ?_⟩
    ·obtain⟨p,hp,rfl⟩:=List.mem_map.1 hx
     have:=List.all_eq_true.1 hk p hp
     simp only[zq3]at this
     simpa using this.1
    ·have hv:=Bd h1
     have JN:∀ s,s∈fN d.op→s∈k7 d.op (d.args.map (Opd.val st.ts)):=by
      intro s hs
      unfold k7
      split
      ·exact List.mem_append.2 (.inr (List.mem_append.2 (.inl hs)))
      ·exact hs
     have hs2:((fN d.op).all fun s=>Nat.blt s st2.os.length&&isDead (st2.os.getD s .gone))=true:=by
      rw[List.all_eq_true]at hsite⊢
      intro s hs
      have:=hsite s hs
      rw[h3,zq1,h2 s (JN s hs),←zq1]
      exact this
     have HJ:jX st2.os (k7 d.op (d.args.map (Opd.val st.ts)))=jX st.os (k7 d.op (d.args.map (Opd.val st.ts))):=by
      funext i
      unfold jX
      split
      ·rename_i hc
       rw[zq1,zq1,h2 i (by simpa using hc)]
      ·rfl
     unfold xN BX
     simp only
     rw[hv,hs2]
     simp only
     rw[gd,HJ,he]
     simp only[aY,Option.bind_some,hk]
   ·cases h
 ·cases h
theorem step_local {E:Env} {d:DOper} {st st':St} {lg:Lg} (h:stepS E d st=some (st',lg)):∃ (v:D) (ws:Wr),lg.2=ws.map (·.1)∧(∀ x,x∈lg.2→x∈lg.1)∧
  ∀ st2:St,(∀ j,j∈jY d→st2.ts.getD j .undef=st.ts.getD j .undef)→(∀ i,i∈lg.1→st2.os[i]? =st.os[i]?)→st2.os.length=st.os.length→stepS E d st2=some (⟨putT st2.ts d.dst v,wrL st2.os ws⟩,lg):=by
 unfold stepS ja at h
 split at h
 ·rename_i hg
  obtain⟨v,ws,h1,h2,h3⟩:=wF h
  refine⟨v,ws,h1,h2,fun st2 a b c=> ?_⟩
  unfold stepS ja
  rw[hg]
  exact h3 st2 a b c
 ·rename_i g us hg
  have KW:g∈jY d:=by unfold jY;rw[hg];simp
  have Fe:∀ {s:St} {x:Bool},s.ts.getD g .undef= .bool x→(⟨s.ts.set g (.bool x),s.os⟩:St)=s:=fun hx=>by rw[set_bool hx]
  have F2:∀ {x:D},st.ts.getD g .undef=x→(∀ st2:St,st2.ts.getD g .undef=x→stepS E d st2=tj d st2 fun st lg=>some (st,lg))→some (⟨putT st.ts d.dst (.tup []),st.os⟩,(([],[]):Lg))=some (st',lg)→
    ∃ (v:D) (ws:Wr),lg.2=ws.map (·.1)∧(∀ x,x∈lg.2→x∈lg.1)∧
    ∀ st2:St,(∀ j,j∈jY d→st2.ts.getD j .undef=st.ts.getD j .undef)→(∀ i,i∈lg.1→st2.os[i]? =st.os[i]?)→st2.os.length=st.os.length→stepS E d st2=some (⟨putT st2.ts d.dst v,wrL st2.os ws⟩,lg):=by
   intro x hx hs he
   simp only[zq5,Prod.mk.injEq]at he
   obtain⟨_,rfl⟩:=he
   refine⟨.tup [],[],rfl,(fun x hx=>by cases hx),fun st2 a b c=> ?_⟩
   rw[hs st2 ((a g KW).trans hx)]
   rfl
  have KX:∀ {x:D},st.ts.getD g .undef=x→(∀ st2:St,st2.ts.getD g .undef=x→stepS E d st2=xN E d st2)→xN E d st=some (st',lg)→
    ∃ (v:D) (ws:Wr),lg.2=ws.map (·.1)∧(∀ x,x∈lg.2→x∈lg.1)∧
    ∀ st2:St,(∀ j,j∈jY d→st2.ts.getD j .undef=st.ts.getD j .undef)→(∀ i,i∈lg.1→st2.os[i]? =st.os[i]?)→st2.os.length=st.os.length→stepS E d st2=some (⟨putT st2.ts d.dst v,wrL st2.os ws⟩,lg):=by
   intro x hx hs he
   obtain⟨v,ws,h1,h2,h3⟩:=wF he
   refine⟨v,ws,h1,h2,fun st2 a b c=> ?_⟩
   rw[hs st2 ((a g KW).trans hx)]
   exact h3 st2 a b c
  split at h
  ·rename_i x hx
   cases us<;>cases x<;>simp only at h
   ·rw[Fe hx]at h
    refine KX hx (fun st2 h2=> ?_) h
    simp only[stepS,ja,hg,h2]
    rw[Fe h2]
   ·rw[Fe hx]at h
    refine F2 hx (fun st2 h2=> ?_) h
    simp only[stepS,ja,hg,h2]
    rw[Fe h2]
   ·rw[Fe hx]at h
    refine F2 hx (fun st2 h2=> ?_) h
    simp only[stepS,ja,hg,h2]
    rw[Fe h2]
   ·rw[Fe hx]at h
    refine KX hx (fun st2 h2=> ?_) h
    simp only[stepS,ja,hg,h2]
    rw[Fe h2]
  ·rename_i hx
   refine F2 hx (fun st2 h2=> ?_) h
   simp only[stepS,ja,hg,h2]
  ·cases h
theorem rq {ts:List D} {d:Option Nat} {v:D} {j:Nat} (h:∀ x,d=some x→j≠x):(putT ts d v).getD j .undef=ts.getD j .undef:=by
 cases d with
 |none=>rfl
 |some x=>
  have:=h x rfl
  simp[putT,zq1,List.getElem?_set,show¬x=j from fun e=>this e.symm]
theorem Be {ts:List D} {d e:Option Nat} {u v:D} (h:∀ x y,d=some x→e=some y→x≠y):putT (putT ts d u) e v=putT (putT ts e v) d u:=by
 cases d with
 |none=>rfl
 |some x=>
  cases e with
  |none=>rfl
  |some y=>exact List.set_comm _ _ (h x y rfl rfl)
theorem nL {i:Nat} {o:Obj}:∀ (ws:Wr) (os:List Obj),(∀ p,p∈ws→p.1≠i)→wrL (os.set i o) ws=(wrL os ws).set i o
 |[],os,_=>rfl
 |(j,x)::ws,os,h=>by
  rw[wrL,wrL,List.set_comm _ _ (fun e=>h (j,x) (List.mem_cons_self ..) e.symm),nL ws _ fun p hp=>h p (List.mem_cons_of_mem _ hp)]
theorem wG:∀ (ws vs:Wr) (os:List Obj),(∀ p q,p∈ws→q∈vs→p.1≠q.1)→wrL (wrL os ws) vs=wrL (wrL os vs) ws
 |[],vs,os,_=>rfl
 |(i,o)::ws,vs,os,h=>by
  rw[wrL,wrL,wG ws vs _ fun p q hp hq=>h p q (List.mem_cons_of_mem _ hp) hq,nL vs os fun q hq e=>h (i,o) q (List.mem_cons_self ..) hq e.symm]
theorem fR {xs ys:List Nat} (h:apart xs ys=true) {x y:Nat} (hx:x∈xs) (hy:y∈ys):x≠y:=by
 rintro rfl
 have:=List.all_eq_true.1 h x hx
 simp at this
 exact this hy
theorem Bf {E:Env} {x y:DOper} {st s1 s2:St} {lx ly:Lg} (hx:stepS E x st=some (s1,lx)) (hy:stepS E y s1=some (s2,ly)) (hi:indep x lx y ly=true):
  ∃ s1',stepS E y st=some (s1',ly)∧stepS E x s1'=some (s2,lx):=by
 simp only[indep,zq3]at hi
 obtain⟨⟨⟨⟨i1,i2⟩,i3⟩,i4⟩,i5⟩:=hi
 obtain⟨vx,wx,x1,x2,x3⟩:=step_local hx
 obtain⟨vy,wy,y1,y2,y3⟩:=step_local hy
 have e1:=x3 st (fun _ _=>rfl) (fun _ _=>rfl) rfl
 rw[hx]at e1
 simp only[zq5,Prod.mk.injEq,and_true]at e1
 have e2:=y3 s1 (fun _ _=>rfl) (fun _ _=>rfl) rfl
 rw[hy]at e2
 simp only[zq5,Prod.mk.injEq,and_true]at e2
 have kx:∀ p:Nat×Obj,p∈wx→p.1∈lx.2:=fun p hp=>by rw[x1];exact List.mem_map.2 ⟨p,hp,rfl⟩
 have ky:∀ p:Nat×Obj,p∈wy→p.1∈ly.2:=fun p hp=>by rw[y1];exact List.mem_map.2 ⟨p,hp,rfl⟩
 have f1:=y3 st (fun j hj=>by
  rw[e1]
  exact (rq fun z hz e=>fR i1 (x:=z) (y:=j) (by simp[hz]) hj e.symm).symm) (fun i hi=>by
  rw[e1]
  exact (wrL_not wx st.os fun p hp e=>fR i4 (kx p hp) (e▸hi) rfl).symm) (by rw[e1,wrL_len])
 refine⟨_,f1, ?_⟩
 have f2:=x3 ⟨putT st.ts y.dst vy,wrL st.os wy⟩ (fun j hj=>rq fun z hz e=>fR i2 (x:=z) (y:=j) (by simp[hz]) hj e.symm)
  (fun i hi=>wrL_not wy st.os fun p hp e=>fR i5 (ky p hp) (e▸hi) rfl) (wrL_len _ _)
 rw[f2,e2,e1]
 congr 2
 have t1:putT (putT st.ts y.dst vy) x.dst vx=putT (putT st.ts x.dst vx) y.dst vy:=Be fun a b ha hb e=>fR i3 (x:=b) (y:=a) (by simp[hb]) (by simp[ha]) e.symm
 have t2:wrL (wrL st.os wy) wx=wrL (wrL st.os wx) wy:=wG wy wx st.os fun p q hp hq e=>fR i5 (ky p hp) (x2 _ (kx q hq)) e
 rw[t1,t2]
inductive RunI (E:Env) (ds:List DOper) (L:Nat→Lg):List Nat→St→St→Prop
 |nil (st):RunI E ds L [] st st
 |cons {i:Nat} {r:List Nat} {d:DOper} {st s1 st':St} (h1:ds[i]? =some d) (h2:stepS E d st=some (s1,L i)) (h3:RunI E ds L r s1 st'):RunI E ds L (i::r) st st'
theorem RunI.front {E:Env} {ds:List DOper} {L:Nat→Lg} {i:Nat} {di:DOper} (hi:ds[i]? =some di):∀ (l1 l2:List Nat) (st st':St),RunI E ds L (l1++i::l2) st st'→
  (∀ q dq,q∈l1→ds[q]? =some dq→indep dq (L q) di (L i)=true)→∃ s1,stepS E di st=some (s1,L i)∧RunI E ds L (l1++l2) s1 st'
 |[],l2,st,st',h,_=>by
  cases h with
  |cons h1 h2 h3=>
   rw[hi]at h1
   cases h1
   exact⟨_,h2,h3⟩
 |q::l1,l2,st,st',h,hq=>by
  cases h with
  |cons h1 h2 h3=>
   obtain⟨s2,g1,g2⟩:=RunI.front hi l1 l2 _ st' h3 fun q' Mj hm=>hq q' Mj (List.mem_cons_of_mem _ hm)
   obtain⟨s1',k1,k2⟩:=Bf h2 g1 (hq q _ (List.mem_cons_self ..) h1)
   exact⟨s1',k1,.cons h1 k2 g2⟩
theorem RunI.of_ops {E:Env} {ds0:List DOper} {L:Nat→Lg}:∀ (ds:List DOper) (k:Nat) (st st':St) (lg:List Lg),(∀ j,ds[j]? =ds0[k+j]?)→(∀ j,j<ds.length→L (k+j)=lg.getD j ([],[]))→opsS E ds st=some (st',lg)→RunI E ds0 L (List.range' k ds.length) st st'∧lg.length=ds.length
 |[],k,st,st',lg,_,_,h=>by
  simp only[opsS,opsK,zq5,Prod.mk.injEq]at h
  obtain⟨rfl,rfl⟩:=h
  exact⟨.nil _,rfl⟩
 |d::ds,k,st,st',lg,hd,hL,h=>by
  obtain⟨s1,l,lg1,h1,h2,rfl⟩:=opsS_cons h
  obtain⟨r,hr⟩:=RunI.of_ops ds (k+1) s1 st' lg1 (fun j=>by have:=hd (j+1);rw[show k+(j+1)=k+1+j by omega]at this;simpa using this)
   (fun j hj=>by have:=hL (j+1) (by simpa using hj);rw[show k+(j+1)=k+1+j by omega]at this;simpa using this) h2
  refine⟨?_,by simp[hr]⟩
  have e0:L k=l:=by have:=hL 0 (by simp);simpa using this
  have e1:ds0[k]? =some d:=by have:=hd 0;simpa using this.symm
  rw[List.length_cons,List.range'_succ]
  exact .cons e1 (by rw[e0];exact h1) r
end
section
theorem pR (acc:List Nat) (q:Nat):∀ (l:List Nat),Nat.testBit (k8 acc l) q=true→∃ e,e∈l∧(q=e∨Nat.testBit (acc.getD e 0) q=true)
 |[],h=>by simp[k8]at h
 |e::l,h=>by
  have h':Nat.testBit (((1<<<e) |||(acc.getD e 0)) |||(k8 acc l)) q=true:=h
  rw[Nat.testBit_or,Nat.testBit_or,Bool.or_eq_true,Bool.or_eq_true]at h'
  rcases h' with (h1 |h1) |h1
  ·refine⟨e,List.mem_cons_self ..,.inl ?_⟩
   rw[Nat.testBit_shiftLeft]at h1
   simp only[zq3,decide_eq_true_eq]at h1
   obtain⟨h2,h3⟩:=h1
   have:q - e=0:=by
    rcases Nat.eq_zero_or_pos (q - e)with h4 |h4
    ·exact h4
    ·rw[Nat.testBit_one_eq_true_iff_self_eq_zero]at h3;exact h3
   omega
  ·exact⟨e,List.mem_cons_self ..,.inr h1⟩
  ·obtain⟨e2,h2,h3⟩:=pR acc q l h1
   exact⟨e2,List.mem_cons_of_mem _ h2,h3⟩
theorem ancs_spec:∀ (os:List DOper) (acc:List Nat),(oP os acc).length=acc.length+os.length∧(∀ j,j<acc.length→(oP os acc).getD j 0=acc.getD j 0)∧
  ∀ (j:Nat) (o:DOper),os[j]? =some o→∀ q,Nat.testBit ((oP os acc).getD (acc.length+j) 0) q=true→∃ e,e∈o.after∧(q=e∨(e<acc.length+j∧Nat.testBit ((oP os acc).getD e 0) q=true))
 |[],acc=>⟨by simp[oP],fun j hj=>rfl,fun j o h=>by simp at h⟩
 |o::os,acc=>by
  obtain⟨h1,h2,h3⟩:=ancs_spec os (acc++[k8 acc o.after])
  simp only[List.length_append,List.length_cons,List.length_nil]at h1 h2 h3
  refine⟨by simp only[oP,List.length_cons];omega,fun j hj=> ?_,fun j o' hj q hq=> ?_⟩
  ·simp only[oP]
   rw[h2 j (by omega)]
   simp[zq1,List.getElem?_append,hj]
  ·simp only[oP]at hq⊢
   cases j with
   |zero=>
    simp at hj
    subst hj
    rw[Nat.add_zero,h2 _ (by omega)]at hq
    have:(acc++[k8 acc o.after]).getD acc.length 0=k8 acc o.after:=by simp[zq1]
    rw[this]at hq
    obtain⟨e,he,Ff⟩:=pR acc q _ hq
    rcases Ff with rfl |Ff
    ·exact⟨q,he,.inl rfl⟩
    ·have hlt:e<acc.length:=by
      rcases Nat.lt_or_ge e acc.length with h |h
      ·exact h
      ·simp[zq1,List.getElem?_eq_none h]at Ff
     refine⟨e,he,.inr ⟨by omega, ?_⟩⟩
     rw[h2 e (by omega)]
     simpa[zq1,List.getElem?_append,hlt]using Ff
   |succ j=>
    have:=h3 j o' (by simpa using hj) q (by rw[show acc.length+1+j=acc.length+(j+1)by omega];exact hq)
    rw[show acc.length+1+j=acc.length+(j+1)by omega]at this
    exact this
theorem wH {ds:List DOper} {lg:List Lg} (h:qN ds lg=true) {p q:Nat} {dp dq:DOper} (hp:ds[p]? =some dp) (hq:ds[q]? =some dq) (Mk:p<lg.length) (Ml:q<lg.length) (hlt:q<p) (hn: ¬Nat.testBit ((oP ds []).getD p 0) q=true):
  indep dq (lg.getD q ([],[])) dp (lg.getD p ([],[]))=true:=by
 have KY:∀ {i:Nat} {d:DOper},ds[i]? =some d→i<lg.length→((d,lg.getD i ([],[])),i)∈(ds.zip lg).zipIdx:=by
  intro i d hi hl
  rw[List.mk_mem_zipIdx_iff_getElem?,List.getElem?_zip_eq_some]
  exact⟨hi,by rw[zq1,zq4 hl];rfl⟩
 unfold qN at h
 have h1:=List.all_eq_true.1 h _ (KY hp Mk)
 have h2:=List.all_eq_true.1 h1 _ (KY hq Ml)
 simp only[Bool.or_eq_true,Bool.not_eq_true']at h2
 rcases h2 with (h2 |h2) |h2
 ·have:Nat.blt q p=true:=by simpa using hlt
  rw[this]at h2
  cases h2
 ·exact absurd h2 hn
 ·exact h2
section
variable {C:Cx} {P:Program} {E:Env}
theorem chkOpers_get {ty:TypeId→Option Vk} {ops:Array Oper}:∀ {os:List Oper} {ds:List DOper},dK P ty ops os ds=true→os.length=ds.length∧∀ (i:Nat) (o:Oper) (d:DOper),os[i]? =some o→ds[i]? =some d→jZ P ty ops o d=true
 |[],[],_=>⟨rfl,fun i o d h=>by simp at h⟩
 |o::os,d::ds,h=>by
  simp only[dK,zq3]at h
  obtain⟨h1,h2⟩:=chkOpers_get h.2
  refine⟨by simp[h1],fun i o' d' ho hd=> ?_⟩
  cases i with
  |zero=>simp at ho hd;subst ho hd;exact h.1
  |succ i=>exact h2 i o' d' (by simpa using ho) (by simpa using hd)
 |[],_::_,h=>by simp[dK]at h
 |_::_,[],h=>by simp[dK]at h
theorem nh:∀ {os:List Oper} {k:Nat},backOk k os=true→∀ (i:Nat) (o:Oper),os[i]? =some o→∀ x,x∈o.after.toList→Region.binds .any x=true→x.on<k+i
 |[],k,_,i,o,ho=>by simp at ho
 |o0::os,k,h,i,o,ho=>by
  simp only[backOk,zq3]at h
  cases i with
  |zero=>
   simp at ho
   subst ho
   intro x hx hb
   have:=Array.all_eq_true_iff_forall_mem.1 h.1 x (Array.mem_toList_iff.1 hx)
   rw[hb]at this
   simpa using this
  |succ i=>
   intro x hx hb
   have:=nh h.2 i o (by simpa using ho) x hx hb
   omega
theorem wI {n i:Nat} {p:Nat→Bool} (hi:i<n) (hp:p i=true):(List.range n).filter p=((List.range n).filter fun x=>p x&&Nat.blt x i)++i::((List.range n).filter fun x=>p x&&Nat.blt i x):=by
 induction n with
 |zero=>omega
 |succ n ih=>
  rw[List.range_succ]
  simp only[List.filter_append,List.filter_cons,List.filter_nil]
  by_cases h:i=n
  ·subst h
   have e1:(List.range i).filter (fun x=>p x&&Nat.blt x i)=(List.range i).filter p:=by
    apply List.filter_congr
    intro x hx
    have:x<i:=by simpa using hx
    simp[this]
   have e2:(List.range i).filter (fun x=>p x&&Nat.blt i x)=[]:=by
    rw[List.filter_eq_nil_iff]
    intro x hx
    have:x<i:=by simpa using hx
    simp
    omega
   simp[e1,e2,hp]
  ·have hlt:i<n:=by omega
   rw[ih hlt]
   have e1:(Nat.blt n i)=false:=by
    cases hb:Nat.blt n i with
    |false=>rfl
    |true=>rw[Nat.blt_eq]at hb;omega
   have e2:(Nat.blt i n)=true:=by simpa using hlt
   simp only[e1,e2,Bool.and_false,Bool.and_true,Bool.false_eq_true,if_false,List.append_nil]
   cases p n<;>simp
theorem any_ok (hK:Ok P E) (hY:YOk C P E) (hE:E.ty=C.ty) {ro:Option Nat} {ops:Array Oper} {Q:Exit→Act→World→Prop} {ds:List DOper} {lg:List Lg} (hc:dK P C.ty ops ops.toList ds=true) (hb:backOk 0 ops.toList=true) (hlg:lg.length=ds.length) (hd:qN ds lg=true)
  {a0:Act} {st0 st':St} {G0:Gh} (hQ:∀ a' w' G',Came C a0 st0 G0 (ds.filterMap (·.dst)) a' st' G' w'→Q .normal a' w'):
  ∀ (fuel:Nat) (aT:Array Bool) (a:Act) (st:St) (G:Gh) (w:World),aT.size=ops.size→((List.range ops.size).filter fun i=> !aT.getD i true).length=fuel→
   (∀ i,aT.getD i true=true→∀ q,Nat.testBit ((oP ds []).getD i 0) q=true→aT.getD q true=true)→
   RunI E ds (fun i=>lg.getD i ([],[])) ((List.range ops.size).filter fun i=> !aT.getD i true) st st'→Came C a0 st0 G0 (ds.filterMap (·.dst)) a st G w→
   wpAnyIn (wd ro) 0 P .any ops Q fuel aT a w:=by
 obtain⟨hl1,hget⟩:=chkOpers_get hc
 have hsz:ops.size=ds.length:=by simpa using hl1
 have pe:∀ aT i,i∈Region.ready .any ops aT↔i<ops.size∧aT.getD i true=false∧∀ o,ops[i]? =some o→∀ x,x∈o.after.toList→Region.binds .any x=true→aT.getD x.on false=true:=by
  intro aT i
  unfold Region.ready
  rw[List.mem_filter,List.mem_range]
  constructor
  ·rintro⟨h1,h2⟩
   simp only[zq3,Bool.not_eq_true']at h2
   refine⟨h1,h2.1,fun o ho x hx Fg=> ?_⟩
   have h3:=h2.2
   rw[ho]at h3
   simp only[Option.map_some,Option.getD_some]at h3
   have:=Array.all_eq_true_iff_forall_mem.1 h3 x (Array.mem_toList_iff.1 hx)
   simpa[Fg]using this
  ·rintro⟨h1,h2,h3⟩
   refine⟨h1, ?_⟩
   rw[h2,Array.getElem?_eq_getElem h1]
   simp only[Bool.not_false,Bool.true_and,Option.map_some,Option.getD_some]
   rw[Array.all_eq_true_iff_forall_mem]
   intro x hx
   cases Fg:Region.binds .any x with
   |false=>rfl
   |true=>simpa using h3 _ (Array.getElem?_eq_getElem h1) x (Array.mem_toList_iff.2 hx) Fg
 intro fuel
 induction fuel with
 |zero=>
  intro aT a st G w HK hf hcl hrun tI
  have HL:=List.eq_nil_of_length_eq_zero hf
  rw[HL]at hrun
  cases hrun
  refine⟨?_,hQ a w G tI⟩
  rw[List.eq_nil_iff_forall_not_mem]
  intro i hi
  obtain⟨h1,h2,_⟩:=(pe aT i).1 hi
  have:i∈(List.range ops.size).filter fun i=> !aT.getD i true:=List.mem_filter.2 ⟨by simpa using h1,by simp only[h2];rfl⟩
  rw[HL]at this
  cases this
 |succ fuel ih=>
  intro aT a st G w HK hf hcl hrun tI
  refine⟨fun hr=> ?_,fun i hi=> ?_⟩
  ·
   exfalso
   have JO:∃ i,i<ops.size∧aT.getD i true=false∧∀ j,j<i→aT.getD j true=true:=by
    have hex:∃ i,i<ops.size∧aT.getD i true=false:=by
     cases hx:(List.range ops.size).filter fun i=> !aT.getD i true with
     |nil=>rw[hx]at hf;simp at hf
     |cons i r=>
      have:i∈(List.range ops.size).filter fun i=> !aT.getD i true:=by rw[hx];exact List.mem_cons_self ..
      rw[List.mem_filter]at this
      exact⟨i,by simpa using this.1,by simpa using this.2⟩
    obtain⟨i,hi⟩:=hex
    induction i using Nat.strongRecOn with
    |_ i Mm=>
     by_cases hj:∃ j,j<i∧aT.getD j true=false
     ·obtain⟨j,uB,qf⟩:=hj
      exact Mm j uB ⟨by omega,qf⟩
     ·refine⟨i,hi.1,hi.2,fun j uB=> ?_⟩
      cases hb:aT.getD j true with
      |true=>rfl
      |false=>exact absurd ⟨j,uB,hb⟩ hj
   obtain⟨i,h1,h2,h3⟩:=JO
   have:i∈Region.ready .any ops aT:=by
    refine (pe aT i).2 ⟨h1,h2,fun o ho x hx Fg=> ?_⟩
    have Fh:=nh hb i o (by rw[Array.getElem?_toList];exact ho) x hx Fg
    have:=h3 x.on (by omega)
    have hxl:x.on<aT.size:=by omega
    simpa[zq2,hxl]using this
   rw[hr]at this
   cases this
  ·obtain⟨h1,h2,h3⟩:=(pe aT i).1 hi
   have ho:=Array.getElem?_eq_getElem h1
   have II:ds[i]? =some (ds[i]'(by omega)):=zq4 (by omega)
   have D9:=hget i ops[i] _ (by rw[Array.getElem?_toList];exact ho) II
   have CQ:∀ e,e∈(ds[i]'(by omega)).after→aT.getD e true=true:=by
    intro e he
    have KZ:=D9
    simp only[jZ,zq3]at KZ
    have:=List.all_eq_true.1 KZ.2 e he
    rw[Array.any_eq_true']at this
    obtain⟨x,hx,tB⟩:=this
    simp only[zq3,beq_iff_eq]at tB
    obtain⟨rfl,Fg⟩:=tB
    have:=h3 _ ho x (Array.mem_toList_iff.2 hx) Fg
    have Fh:=nh hb i ops[i] (by rw[Array.getElem?_toList];exact ho) x (Array.mem_toList_iff.2 hx) Fg
    have hxl:x.on<aT.size:=by omega
    simpa[zq2,hxl]using this
   have HM:∀ q,Nat.testBit ((oP ds []).getD i 0) q=true→aT.getD q true=true:=by
    intro q hq
    obtain⟨_,_,hs⟩:=ancs_spec ds []
    obtain⟨e,he,Ff⟩:=hs i _ II q (by simpa using hq)
    rcases Ff with rfl |⟨_,Ff⟩
    ·exact CQ _ he
    ·exact hcl e (CQ e he) q Ff
   have yD:=wI (n:=ops.size) (i:=i) (p:=fun i=> !aT.getD i true) h1 (by simp only[h2];rfl)
   rw[yD]at hrun
   obtain⟨s1,r1,r2⟩:=RunI.front II _ _ st st' hrun fun q dq hq Mn=>by
    rw[List.mem_filter]at hq
    simp only[zq3,Bool.not_eq_true',Nat.blt_eq]at hq
    have hql:q<ops.size:=by simpa using hq.1
    refine wH hd II Mn (by omega) (by omega) hq.2.2 fun ju=> ?_
    rw[HM q ju]at hq
    simp at hq
   unfold wpOpIn
   rw[ho]
   simp only
   refine zO hK hY hE tI.rel D9 r1 _ Q (fun v' w' G' hr hlv=> ?_)
   have HN:((List.range ops.size).filter fun x=> !(aT.setIfInBounds i true).getD x true)=((List.range ops.size).filter fun x=> !aT.getD x true&&Nat.blt x i)++((List.range ops.size).filter fun x=> !aT.getD x true&&Nat.blt i x):=by
    have e0:((List.range ops.size).filter fun x=> !(aT.setIfInBounds i true).getD x true)=((List.range ops.size).filter fun x=> !aT.getD x true).filter (fun x=>x !=i):=by
     rw[List.filter_filter]
     apply List.filter_congr
     intro x hx
     by_cases Fh:x=i
     ·subst Fh
      have:x<aT.size:=by omega
      simp[zq2,this]
     ·simp[zq2,Array.getElem?_setIfInBounds_ne (fun e=>Fh e.symm),Fh]
    rw[e0,yD]
    have f1:((List.range ops.size).filter fun x=> !aT.getD x true&&Nat.blt x i).filter (fun x=>x !=i)=((List.range ops.size).filter fun x=> !aT.getD x true&&Nat.blt x i):=by
     rw[List.filter_eq_self]
     intro x hx
     rw[List.mem_filter]at hx
     simp only[zq3,Nat.blt_eq]at hx
     simp
     omega
    have f2:((List.range ops.size).filter fun x=> !aT.getD x true&&Nat.blt i x).filter (fun x=>x !=i)=((List.range ops.size).filter fun x=> !aT.getD x true&&Nat.blt i x):=by
     rw[List.filter_eq_self]
     intro x hx
     rw[List.mem_filter]at hx
     simp only[zq3,Nat.blt_eq]at hx
     simp
     omega
    rw[List.filter_append,List.filter_cons,f1,f2]
    simp
   refine ih (aT.setIfInBounds i true) _ s1 G' w' (by simpa using HK) ?_ ?_ (by rw[HN];exact r2) ?_
   ·rw[HN]
    rw[yD]at hf
    simp only[List.length_append,List.length_cons]at hf⊢
    omega
   ·intro j hj q hq
    have up:∀ x,aT.getD x true=true→(aT.setIfInBounds i true).getD x true=true:=by
     intro x hx
     by_cases Fh:i=x
     ·subst Fh
      have:i<aT.size:=by omega
      simp[zq2,this]
     ·simpa[zq2,Array.getElem?_setIfInBounds_ne Fh]using hx
    by_cases K0:i=j
    ·subst K0
     exact up q (HM q hq)
    ·have:aT.getD j true=true:=by simpa[zq2,Array.getElem?_setIfInBounds_ne K0]using hj
     exact up q (hcl j this q hq)
   ·have yC:ops[i].dst=(ds[i]'(by omega)).dst:=by
     simp only[jZ,zq3,beq_iff_eq]at D9
     exact D9.1.1.1
    refine⟨hr,(rn _ _ _).trans tI.df,fun x hx=> ?_,fun j hj=> ?_⟩
    ·obtain⟨g1,g2⟩:=tI.live x hx
     obtain⟨g3,g4⟩:=hlv x g2
     exact⟨g3.trans g1,g4⟩
    ·rw[tH a fun x hx=> ?_,tI.tm j hj]
     rintro rfl
     exact hj (List.mem_filterMap.2 ⟨_,List.getElem_mem (by omega:i<ds.length),yC▸hx⟩)
end
end
section
def Cx.at (C:Cx) (w:World) (M:Nat→Prop):Cx:=⟨C.ty,C.X,w,M,C.yl⟩
section
variable {C:Cx} {P:Program} {E:Env} {tm tm0:Array Value} {st st0:St} {G G0:Gh} {w w0:World}
theorem Rel.rebase (h:Rel C tm st G w):Rel (C.at w (LB st.os G)) tm st G w where
 tsz:=h.tsz
 ts:=h.ts
 os:=h.os
 inj:=h.inj
 inX:=fun b hb=>⟨(h.inX b hb).1,(h.inX b hb).2.1,fun _=>hb⟩
 rT:=h.rT
 rO:=h.rO
 tape:=rfl
 osw:=rfl
 out:=rfl
 size:=Nat.le_refl _
 frame:=fun _ _ _=>rfl
 xw:=fun b hb=>⟨by have:=(h.xw b hb).1;have:=h.size;show b<w.heap.size;omega,fun hl=>(h.inX b hl).1 hb⟩
theorem Rel.unbase (h0:Rel C tm0 st0 G0 w0) (h:Rel (C.at w0 (LB st0.os G0)) tm st G w):Rel C tm st G w where
 tsz:=h.tsz
 ts:=h.ts
 os:=h.os
 inj:=h.inj
 inX:=by
  intro b hb
  obtain⟨h1,h2,h3⟩:=h.inX b hb
  refine⟨h1,h2,fun DU=> ?_⟩
  have hs:=h0.size
  exact (h0.inX b (h3 (show b<w0.heap.size by omega))).2.2 DU
 rT:=h.rT
 rO:=h.rO
 tape:=(show w.tape=w0.tape from h.tape).trans h0.tape
 osw:=(show w.os=w0.os from h.osw).trans h0.osw
 out:=(show w.output=w0.output from h.out).trans h0.out
 size:=by
  have h1:=h0.size
  have h2:w0.heap.size≤w.heap.size:=h.size
  omega
 frame:=by
  intro b hb hM
  have hs:=h0.size
  have h1:w.heap[b]? =w0.heap[b]? :=h.frame b (show b<w0.heap.size by omega) fun hl=>hM ((h0.inX b hl).2.2 hb)
  rw[h1]
  exact h0.frame b hb hM
 xw:=h0.xw
structure Ent where
 num:Nat
 obj:Obj
 gh:Value×Option Nat
 src:Option Nat
def JP (C:Cx) (os:List Obj) (G:Gh) (w:World) (gh:Value×Option Nat) (k e:Vk) (ks vs:List D):Prop:=
 ∃ g es clock,gh=(.map (some g),some g)∧w.heap[g]? =some (.map es clock)∧es.size=ks.length∧vs.length=ks.length∧(∀ d,d∈ks→k.fits d=true)∧(∀ d,d∈vs→e.fits d=true)∧
  (∀ i (h:i<es.size),RepV C.ty w (okB C os G w) es[i].key (ks.getD i .undef)∧RepV C.ty w (okB C os G w) es[i].val (vs.getD i .undef))∧fe es clock
structure EntsOk (C:Cx) (os:List Obj) (G:Gh) (w:World) (es:List Ent):Prop where
 num:(es.map (·.num)).Nodup
 src:(es.filterMap (·.src)).Nodup
 blk:∀ e,e∈es→∀ b,e.gh.2=some b→∃ id o,e.src=some id∧os[id]? =some o∧live o=true∧(G id).2=some b
 row:∀ e,e∈es→∀ t nb els,e.obj= .arr t nb els→∃ k,C.ty t=some k∧RowR C.ty w (okB C os G w) k e.gh.1 e.gh.2 els nb
 var:∀ e,e∈es→∀ cs,e.obj= .var cs→∃ g cells t,e.gh=(.pointer (some ⟨g,0,none⟩),some g)∧w.heap[g]? =some (.cells cells t (0,0))∧cells.size=cs.length∧
  ∀ j,j<cs.length→(pure0 (cs.getD j .undef)=true∧RepV C.ty w (okB C os G w) (cells.getD j undef) (cs.getD j .undef))∨
   (∃ t s els nb gh,cs.getD j .undef= .own t s els∧(∃ e',e'∈es∧e'.num=s∧(∃ l,e'.obj= .arr t nb l∧l.length=els)∧e'.gh=gh∧gh.1=cells.getD j undef))
 mp:∀ e,e∈es→∀ k v ks vs,e.obj= .mp k v ks vs→JP C os G w e.gh k v ks vs
 kind:∀ e,e∈es→(∃ t nb els,e.obj= .arr t nb els)∨(∃ cs,e.obj= .var cs)∨∃ k v ks vs,e.obj= .mp k v ks vs
theorem tJ {es:List Ent} (h:(es.map (·.num)).Nodup) {e e':Ent} (he:e∈es) (he':e'∈es) (hn:e.num=e'.num):e=e':=by
 induction es with
 |nil=>cases he
 |cons x xs ih=>
  simp only[List.map_cons,List.nodup_cons,List.mem_map]at h
  rcases List.mem_cons.1 he with rfl |h1<;>rcases List.mem_cons.1 he' with rfl |h2
  ·rfl
  ·exact absurd ⟨e',h2,hn.symm⟩ h.1
  ·exact absurd ⟨e,h1,hn⟩ h.1
  ·exact ih h.2 h1 h2
theorem D_ {es:List Ent} (h:(es.filterMap (·.src)).Nodup) {e e':Ent} (he:e∈es) (he':e'∈es) {id:Nat} (hs:e.src=some id) (BN:e'.src=some id):e=e':=by
 induction es with
 |nil=>cases he
 |cons x xs ih=>
  have hr:(xs.filterMap (·.src)).Nodup:=by
   cases hx:x.src with
   |none=>simpa[List.filterMap_cons,hx]using h
   |some y=>simp only[List.filterMap_cons,hx,List.nodup_cons]at h;exact h.2
  rcases List.mem_cons.1 he with rfl |h1<;>rcases List.mem_cons.1 he' with rfl |h2
  ·rfl
  ·simp only[List.filterMap_cons,hs,List.nodup_cons]at h
   exact absurd (List.mem_filterMap.2 ⟨e',h2,BN⟩) h.1
  ·simp only[List.filterMap_cons,BN,List.nodup_cons]at h
   exact absurd (List.mem_filterMap.2 ⟨e,h1,hs⟩) h.1
  ·exact ih hr h1 h2
open Classical in
noncomputable def openG (G:Gh) (es:List Ent):Gh:=fun i=>if h:∃ e,e∈es∧e.num=i then h.choose.gh else G i
theorem openG_at {es:List Ent} (h:(es.map (·.num)).Nodup) {e:Ent} (he:e∈es):openG G es e.num=e.gh:=by
 have hx:∃ e',e'∈es∧e'.num=e.num:=⟨e,he,rfl⟩
 unfold openG
 rw[dif_pos hx]
 rw[tJ h hx.choose_spec.1 he hx.choose_spec.2]
abbrev opened (n:Nat) (es:List Ent):List Obj:=wrL (List.replicate n .dead) (es.map fun e=>(e.num,e.obj))
theorem opened_at {n:Nat} {es:List Ent} (h:(es.map (·.num)).Nodup) {e:Ent} (he:e∈es) (hl:e.num<n):(opened n es)[e.num]? =some e.obj:=by
 refine wrL_mem _ _ (e.num,e.obj) ?_ (List.mem_map.2 ⟨e,he,rfl⟩) (by simpa using hl)
 intro q r hq hr K1
 obtain⟨a,ha,rfl⟩:=List.mem_map.1 hq
 obtain⟨b,hb,rfl⟩:=List.mem_map.1 hr
 simp only at K1⊢
 rw[tJ h ha hb K1]
theorem Bg {n:Nat} {es:List Ent} {i:Nat} (h:∀ e,e∈es→e.num≠i):(opened n es)[i]? =(List.replicate n Obj.dead)[i]? :=by
 refine wrL_not _ _ fun p hp=> ?_
 obtain⟨e,he,rfl⟩:=List.mem_map.1 hp
 exact h e he
theorem opened_get {n:Nat} {es:List Ent} (h:(es.map (·.num)).Nodup) {i:Nat} {o:Obj} (ho:(opened n es)[i]? =some o):o= .dead∨∃ e,e∈es∧e.num=i∧o=e.obj:=by
 by_cases hx:∃ e,e∈es∧e.num=i
 ·obtain⟨e,he,rfl⟩:=hx
  have hl:=(zq6.1 ho).1
  rw[wrL_len,List.length_replicate]at hl
  rw[opened_at h he hl]at ho
  cases ho
  exact .inr ⟨e,he,rfl,rfl⟩
 ·rw[Bg fun e he hn=>hx ⟨e,he,hn⟩]at ho
  left
  rw[List.getElem?_replicate]at ho
  split at ho
  ·cases ho;rfl
  ·cases ho
theorem open_ok {ts ts1:List D} {os:List Obj} (h:Rel C tm ⟨ts,os⟩ G w) {es:List Ent} (hes:EntsOk C os G w es) {n:Nat} (hn:∀ e,e∈es→e.num<n) (Mo:tm.size=ts1.length)
  (hts:∀ (j:Nat) (d:D),ts1[j]? =some d→RepT C (opened n es) (openG G es) w (tm.getD j undef) d∧∀ id,id∈refsD d→isDead ((opened n es).getD id .gone)=false):
  Rel C tm ⟨ts1,opened n es⟩ (openG G es) w∧∀ b,okB C os G w b→okB C (opened n es) (openG G es) w b:=by
 have hLB:∀ b,LB (opened n es) (openG G es) b→LB os G b:=by
  rintro b ⟨i,o,h1,h2,h3⟩
  rcases opened_get hes.num h1 with rfl |⟨e,he,rfl,rfl⟩
  ·cases h2
  ·rw[openG_at hes.num he]at h3
   obtain⟨id,o',g1,g2,g3,g4⟩:=hes.blk e he b h3
   exact⟨id,o',g2,g3,g4⟩
 have hok:∀ b,okB C os G w b→okB C (opened n es) (openG G es) w b:=fun b ⟨b1,b2,b3⟩=>⟨b1,fun hb=>b2 (hLB b hb),b3⟩
 have hat:∀ e,e∈es→oAt (opened n es) e.num=oSh e.obj:=fun e he=>oAt_of (opened_at hes.num he (hn e he))
 have halive:∀ e,e∈es→isDead ((opened n es).getD e.num .gone)=false:=by
  intro e he
  rw[zq1,opened_at hes.num he (hn e he)]
  rcases hes.kind e he with⟨t,nb,els,hx⟩ |⟨cs,hx⟩ |⟨k,v,ks,vs,hx⟩<;>(rw[hx];rfl)
 refine⟨?_,hok⟩
 exact {
  tsz:=Mo
  ts:=fun j d hj=>(hts j d hj).1
  os:=by
   intro i o ho
   rcases opened_get hes.num ho with rfl |⟨e,he,rfl,rfl⟩
   ·trivial
   ·rcases hes.kind e he with⟨t,nb,els,hx⟩ |⟨cs,hx⟩ |⟨k,v,ks,vs,hx⟩
    rotate_left 2
    ·obtain⟨g,zM,clock,v1,v2,v3,v4,v5,v6,v7,v8⟩:=hes.mp e he k v ks vs hx
     rw[hx]
     exact⟨g,zM,clock,by rw[openG_at hes.num he];exact v1,v2,v3,v4,v5,v6,fun i hi=>⟨(v7 i hi).1.mono hok (fun _ _=>rfl),(v7 i hi).2.mono hok (fun _ _=>rfl)⟩,v8⟩
    ·obtain⟨k,k1,k2⟩:=hes.row e he t nb els hx
     rw[hx]
     refine objRel_row.2 ⟨k,k1, ?_⟩
     rw[openG_at hes.num he]
     exact k2.mono hok
    ·obtain⟨g,cells,t,v1,v2,v3,v4⟩:=hes.var e he cs hx
     rw[hx]
     refine⟨g,cells,t,by rw[openG_at hes.num he];exact v1,v2,v3,fun j hj=> ?_⟩
     rcases v4 j hj with⟨p1,p2⟩ |⟨t',s,len,nb,gh,p1,e',q1,q2,⟨l,q3,q4⟩,q5,q6⟩
     ·exact⟨(p2.mono hok (fun _ _=>rfl)).t0 p1,pure_cell0 p1⟩
     ·rw[p1]
      obtain⟨k,k1,k2⟩:=hes.row e' q1 _ _ _ q3
      refine⟨⟨?_, ?_⟩,rfl⟩
      ·rw[←q6,←q5,←q4]
       exact rowR_len k2
      ·rw[←q2,hat e' q1,q3]
       exact⟨rfl,q4.symm,by rw[openG_at hes.num q1,q5,q6]⟩
  inj:=by
   intro i j oi oj b hi hj hli hlj hbi hbj
   rcases opened_get hes.num hi with rfl |⟨e,he,rfl,rfl⟩
   ·cases hli
   ·rcases opened_get hes.num hj with rfl |⟨e',he',rfl,rfl⟩
    ·cases hlj
    ·rw[openG_at hes.num he]at hbi
     rw[openG_at hes.num he']at hbj
     obtain⟨id,o1,a1,a2,a3,a4⟩:=hes.blk e he b hbi
     obtain⟨id',o2,b1,b2,b3,b4⟩:=hes.blk e' he' b hbj
     have:=h.inj id id' o1 o2 b a2 b2 a3 b3 a4 b4
     subst this
     rw[D_ hes.src he he' a1 b1]
  inX:=fun b hb=>h.inX b (hLB b hb)
  rT:=fun j d hj=>(hts j d hj).2
  rO:=by
   intro i o ho id hid
   rcases opened_get hes.num ho with rfl |⟨e,he,rfl,rfl⟩
   ·simp[refsO]at hid
   ·rcases hes.kind e he with⟨t,nb,els,hx⟩ |⟨cs,hx⟩ |⟨k,v,ks,vs,hx⟩
    rotate_left 2
    ·rw[hx]at hid
     simp[refsO]at hid
    ·rw[hx]at hid
     simp[refsO]at hid
    ·obtain⟨g,cells,t,v1,v2,v3,v4⟩:=hes.var e he cs hx
     rw[hx]at hid
     obtain⟨d,hd,hi⟩:=List.mem_flatMap.1 hid
     obtain⟨j,hj,rfl⟩:=List.getElem_of_mem hd
     have hg:cs.getD j .undef=cs[j]:=by simp[zq1,hj]
     rcases v4 j hj with⟨p1,p2⟩ |⟨t',s,len,nb,gh,p1,e',q1,q2,_⟩
     ·rw[hg]at p1
      rw[(ij p1).1]at hi
      cases hi
     ·rw[hg]at p1
      rw[p1]at hi
      simp[refs0,refsb]at hi
      subst hi
      rw[←q2]
      exact halive e' q1
  tape:=h.tape
  osw:=h.osw
  out:=h.out
  size:=h.size
  frame:=h.frame
  xw:=h.xw}
end
end
section
def entOwn (V:Vw) (G:Gh) (s:Nat) (e:TypeId) (v:Value) (d:D):Ent:=
 match d with
 | .own _ id _=>match V id with
  | .arr _ nb els=>⟨s,.arr e nb els,G id,some id⟩
  |_=>⟨s,.arr e true [],(v,none),none⟩
 | .zs _ nb=>⟨s,.arr e nb [],(v,none),none⟩
 |_=>⟨s,.arr e true [],(v,none),none⟩
def slotEnts (V:Vw) (G:Gh) (ts:List D) (tm:Array Value):List (Nat×SlotM)→List Ent
 |[]=>[]
 |(_,.p _)::ms=>slotEnts V G ts tm ms
 |(j,.o s e)::ms=>entOwn V G s e (tm.getD j undef) (ts.getD j .undef)::slotEnts V G ts tm ms
def cellEnts (V:Vw) (G:Gh) (cv:Nat→Value):Nat→List CellM→List D→List Ent
 |j,.p _::ms,_::ds=>cellEnts V G cv (j+1) ms ds
 |j,.o s e::ms,d::ds=>entOwn V G s e (cv j) d::cellEnts V G cv (j+1) ms ds
 |_,_,_=>[]
def cellV (w:World) (v:Value) (j:Nat):Value:=
 match v with
 | .pointer (some a)=>match w.heap[a.block]? with
  |some (.cells c _ _)=>c.getD j undef
  |_=>undef
 |_=>undef
def objEnts (V:Vw) (G:Gh) (w:World) (vs:List D):Nat→List (Nat×ObjM)→List Ent
 |_,[]=>[]
 |n,(i,.a e)::ms=>⟨i,.arr e (vs.getD n .undef).nb (vs.getD n .undef).els,G i,some i⟩::objEnts V G w vs (n+1) ms
 |n,(i,.m k e)::ms=>⟨i,.mp k e (vs.getD n .undef).mks (vs.getD n .undef).mvs,G i,some i⟩::objEnts V G w vs (n+1) ms
 |n,(i,.v cm)::ms=>⟨i,.var (openCells (vs.getD n .undef) 0 cm).1,G i,some i⟩::(cellEnts V G (cellV w (G i).1) 0 cm (match V i with | .var cs=>cs |_=>[])++objEnts V G w vs (n+1) ms)
def slotPs (ts:List D) (tm:Array Value):List (Nat×SlotM)→List (D×Value)
 |[]=>[]
 |(j,.p _)::ms=>(ts.getD j .undef,tm.getD j undef)::slotPs ts tm ms
 |(_,.o _ _)::ms=>slotPs ts tm ms
def cellPs (cv:Nat→Value):Nat→List CellM→List D→List (D×Value)
 |j,.p _::ms,d::ds=>(d,cv j)::cellPs cv (j+1) ms ds
 |j,.o _ _::ms,_::ds=>cellPs cv (j+1) ms ds
 |_,_,_=>[]
def objPs (V:Vw) (G:Gh) (w:World):List (Nat×ObjM)→List (D×Value)
 |[]=>[]
 |(_,.a _)::ms=>objPs V G w ms
 |(_,.m _ _)::ms=>objPs V G w ms
 |(i,.v cm)::ms=>cellPs (cellV w (G i).1) 0 cm (match V i with | .var cs=>cs |_=>[])++objPs V G w ms
def psRefs (l:List (D×Value)):List Nat:=l.flatMap fun p=>refsD p.1
theorem takeOwn_spec {V:Vw} {G:Gh} {s:Nat} {e:TypeId} {v:Value} {d x:D} {ids:List Nat} (h:takeOwn V e d=some (x,ids)):
  ids=(entOwn V G s e v d).src.toList∧(entOwn V G s e v d).obj= .arr e x.nb x.els∧(entOwn V G s e v d).num=s∧
  ((∃ id n nb els,(∃ e1,d= .own e1 id n)∧V id= .arr e nb els∧x= .ov e nb els∧(entOwn V G s e v d).gh=G id∧(entOwn V G s e v d).src=some id)∨
   (∃ nb,d= .zs e nb∧x= .ov e nb []∧(entOwn V G s e v d).gh=(v,none)∧(entOwn V G s e v d).src=none)):=by
 unfold takeOwn at h
 split at h
 ·rename_i e1 id n
  split at h
  ·rename_i e' nb l hV
   split at h
   ·rename_i hee
    subst hee
    cases h
    refine⟨?_, ?_, ?_,.inl ⟨id,n,nb,l,⟨e1,rfl⟩,hV,rfl, ?_, ?_⟩⟩<;>simp[entOwn,hV,D.nb,D.els]
   ·cases h
  ·cases h
 ·rename_i e' nb
  split at h
  ·rename_i hee
   subst hee
   cases h
   exact⟨rfl,rfl,rfl,.inr ⟨nb,rfl,rfl,rfl,rfl⟩⟩
  ·cases h
 ·cases h
theorem perm_mid {α:Type} {a b c d x y:List α} (h1:(x).Perm (a++b)) (h2:y.Perm (c++d)):(x++y).Perm ((a++c)++(b++d)):=by
 refine (h1.append h2).trans ?_
 rw[List.append_assoc,List.append_assoc]
 refine List.Perm.append_left a ?_
 rw[←List.append_assoc,←List.append_assoc]
 exact List.Perm.append_right d List.perm_append_comm
theorem slots_spec {V:Vw} {G:Gh} {ts:List D} {tm:Array Value}:∀ {ms:List (Nat×SlotM)} {l:List D} {ids:List Nat},fO ts V ms=some (l,ids)→
  l.length=ms.length∧ids.Perm ((slotEnts V G ts tm ms).filterMap (·.src)++psRefs (slotPs ts tm ms))∧(slotEnts V G ts tm ms).map (·.num)=slotSites ms∧
  (∀ (vs:List D) (n:Nat),(∀ i,i<ms.length→vs.getD (n+i) .undef=l.getD i .undef)→(openSlots vs n ms).2=(slotEnts V G ts tm ms).map fun e=>(e.num,e.obj))∧
  (∀ p,p∈slotPs ts tm ms→∃ (i j:Nat) (k:Vk),ms[i]? =some (j,.p k)∧p=(ts.getD j .undef,tm.getD j undef)∧k.fits (frz V p.1).1=true)∧
  (∀ (i j:Nat) (k:Vk),ms[i]? =some (j,.p k)→(ts.getD j .undef,tm.getD j undef)∈slotPs ts tm ms∧l.getD i .undef=(frz V (ts.getD j .undef)).1∧k.fits (l.getD i .undef)=true)∧
  (∀ (i j s:Nat) (e:TypeId),ms[i]? =some (j,.o s e)→entOwn V G s e (tm.getD j undef) (ts.getD j .undef)∈slotEnts V G ts tm ms∧takeOwn V e (ts.getD j .undef)=some (l.getD i .undef,(entOwn V G s e (tm.getD j undef) (ts.getD j .undef)).src.toList))∧
  (∀ x,x∈slotEnts V G ts tm ms→∃ (i j s:Nat) (e:TypeId),ms[i]? =some (j,.o s e)∧x=entOwn V G s e (tm.getD j undef) (ts.getD j .undef))
 |[],l,ids,h=>by
  simp[fO]at h
  obtain⟨rfl,rfl⟩:=h
  refine⟨rfl,.refl _,rfl,fun _ _ _=>rfl,fun p hp=>by simp[slotPs]at hp,fun i j k hi=>by simp at hi,fun i j s e hi=>by simp at hi,fun x hx=>by simp[slotEnts]at hx⟩
 |(j,.p k)::ms,l,ids,h=>by
  simp only[fO]at h
  split at h
  ·rename_i l' n' hf hr
   simp only[zq5,Prod.mk.injEq]at h
   obtain⟨rfl,rfl⟩:=h
   obtain⟨h1,h2,h3,h4,h5,h6,h7,h8⟩:=slots_spec (G:=G) (tm:=tm) hr
   refine⟨by simp[h1], ?_,h3,fun vs n hv=> ?_,fun p hp=> ?_,fun i j' k' hi=> ?_,fun i j' s e hi=> ?_,fun x hx=> ?_⟩
   ·have:=perm_mid (a:=[]) (b:=refsD (ts.getD j .undef)) (x:=refsD (ts.getD j .undef)) (.refl _) h2
    simpa[slotEnts,slotPs,psRefs]using this
   ·simp only[openSlots]
    exact h4 vs (n+1) fun i hi=>by have:=hv (i+1) (by simpa using hi);rwa [show n+(i+1)=n+1+i by omega,List.getD_cons_succ]at this
   ·simp only[slotPs,List.mem_cons]at hp
    rcases hp with rfl |hp
    ·exact⟨0,j,k,rfl,rfl,hf⟩
    ·obtain⟨i,j',k',a,b,c⟩:=h5 p hp
     exact⟨i+1,j',k',by simpa using a,b,c⟩
   ·cases i with
    |zero=>
     simp at hi
     obtain⟨rfl,rfl⟩:=hi
     exact⟨List.mem_cons_self ..,rfl,hf⟩
    |succ i=>
     obtain⟨a,b,c⟩:=h6 i j' k' (by simpa using hi)
     exact⟨List.mem_cons_of_mem _ a,by simpa using b,by simpa using c⟩
   ·cases i with
    |zero=>simp at hi
    |succ i=>
     obtain⟨a,b⟩:=h7 i j' s e (by simpa using hi)
     exact⟨a,by simpa using b⟩
   ·obtain⟨i,j',s,e,a,b⟩:=h8 x hx
    exact⟨i+1,j',s,e,by simpa using a,b⟩
  ·cases h
 |(j,.o s e)::ms,l,ids,h=>by
  simp only[fO]at h
  split at h
  ·rename_i x ix l' n' ho hr
   simp only[zq5,Prod.mk.injEq]at h
   obtain⟨rfl,rfl⟩:=h
   obtain⟨h1,h2,h3,h4,h5,h6,h7,h8⟩:=slots_spec (G:=G) (tm:=tm) hr
   obtain⟨t1,t2,t3,t4⟩:=takeOwn_spec (G:=G) (s:=s) (v:=tm.getD j undef) ho
   refine⟨by simp[h1], ?_,by simp only[slotEnts,slotSites,List.map_cons,t3,h3],fun vs n hv=> ?_,fun p hp=> ?_,fun i j' k' hi=> ?_,fun i j' s' e' hi=> ?_,fun y hy=> ?_⟩
   ·have:=perm_mid (a:=ix) (b:=[]) (x:=ix) (by simp) h2
    have e1:(slotEnts V G ts tm ((j,.o s e)::ms)).filterMap (·.src)=ix++(slotEnts V G ts tm ms).filterMap (·.src):=by
     rw[t1]
     simp only[slotEnts,List.filterMap_cons]
     cases (entOwn V G s e (tm.getD j undef) (ts.getD j .undef)).src<;>rfl
    rw[e1]
    simpa[slotPs]using this
   ·simp only[openSlots,slotEnts,List.map_cons,t2,t3]
    have h0:=hv 0 (by simp)
    rw[Nat.add_zero,List.getD_cons_zero]at h0
    rw[h0,h4 vs (n+1) fun i hi=>by have:=hv (i+1) (by simpa using hi);rwa [show n+(i+1)=n+1+i by omega,List.getD_cons_succ]at this]
   ·obtain⟨i,j',k',a,b,c⟩:=h5 p hp
    exact⟨i+1,j',k',by simpa using a,b,c⟩
   ·cases i with
    |zero=>simp at hi
    |succ i=>
     obtain⟨a,b,c⟩:=h6 i j' k' (by simpa using hi)
     exact⟨a,by simpa using b,by simpa using c⟩
   ·cases i with
    |zero=>
     simp at hi
     obtain⟨rfl,rfl,rfl⟩:=hi
     exact⟨List.mem_cons_self ..,by rw[←t1];exact ho⟩
    |succ i=>
     obtain⟨a,b⟩:=h7 i j' s' e' (by simpa using hi)
     exact⟨List.mem_cons_of_mem _ a,by simpa using b⟩
   ·simp only[slotEnts,List.mem_cons]at hy
    rcases hy with rfl |hy
    ·exact⟨0,j,s,e,rfl,rfl⟩
    ·obtain⟨i,j',s',e',a,b⟩:=h8 y hy
     exact⟨i+1,j',s',e',by simpa using a,b⟩
  ·cases h
theorem Bh {V:Vw} {d:D} (h:cell0 d=true):frz V d=cA V d∧refsD d=refs0 d:=by
 cases d<;>first |exact⟨rfl,rfl⟩ |(simp[cell0,pure0]at h;done)
theorem cells_spec {V:Vw} {G:Gh} {cv:Nat→Value}:∀ {cm:List CellM} {cs l:List D} {ids:List Nat} (j0:Nat),(∀ d,d∈cs→cell0 d=true)→packCells V cm cs=some (l,ids)→
  l.length=cm.length∧cs.length=cm.length∧ids.Perm ((cellEnts V G cv j0 cm cs).filterMap (·.src)++psRefs (cellPs cv j0 cm cs))∧(cellEnts V G cv j0 cm cs).map (·.num)=jH cm∧
  (∀ (v:D),(∀ i,i<cm.length→v.cs.getD (j0+i) .undef=l.getD i .undef)→(openCells v j0 cm).2=(cellEnts V G cv j0 cm cs).map (fun e=>(e.num,e.obj))∧(openCells v j0 cm).1.length=cm.length∧
   (∀ (i:Nat) (k:Sk),cm[i]? =some (.p k)→(openCells v j0 cm).1.getD i .undef=eta k (l.getD i .undef))∧(∀ (i s:Nat) (e:TypeId),cm[i]? =some (.o s e)→(openCells v j0 cm).1.getD i .undef= .own e s (l.getD i .undef).els.length))∧
  (∀ p,p∈cellPs cv j0 cm cs→∃ (i:Nat) (k:Sk),cm[i]? =some (.p k)∧p=(cs.getD i .undef,cv (j0+i))∧fits k (frz V p.1).1=true)∧
  (∀ (i:Nat) (k:Sk),cm[i]? =some (.p k)→(cs.getD i .undef,cv (j0+i))∈cellPs cv j0 cm cs∧l.getD i .undef=(frz V (cs.getD i .undef)).1∧fits k (l.getD i .undef)=true)∧
  (∀ (i s:Nat) (e:TypeId),cm[i]? =some (.o s e)→entOwn V G s e (cv (j0+i)) (cs.getD i .undef)∈cellEnts V G cv j0 cm cs∧takeOwn V e (cs.getD i .undef)=some (l.getD i .undef,(entOwn V G s e (cv (j0+i)) (cs.getD i .undef)).src.toList))∧
  (∀ x,x∈cellEnts V G cv j0 cm cs→∃ (i s:Nat) (e:TypeId),cm[i]? =some (.o s e)∧x=entOwn V G s e (cv (j0+i)) (cs.getD i .undef))
 |[],[],l,ids,j0,hc,h=>by
  simp[packCells]at h
  obtain⟨rfl,rfl⟩:=h
  refine⟨rfl,rfl,.refl _,rfl,fun _ _=>⟨rfl,rfl,fun i k hi=>by simp at hi,fun i s e hi=>by simp at hi⟩,fun p hp=>by simp[cellPs]at hp,fun i k hi=>by simp at hi,fun i s e hi=>by simp at hi,fun x hx=>by simp[cellEnts]at hx⟩
 | .p k::ms,d::ds,l,ids,j0,hc,h=>by
  simp only[packCells]at h
  split at h
  ·rename_i l' n' hf hr
   simp only[zq5,Prod.mk.injEq]at h
   obtain⟨rfl,rfl⟩:=h
   have hd:=hc d (List.mem_cons_self ..)
   obtain⟨z1,z2⟩:=Bh (V:=V) hd
   obtain⟨h1,h0,h2,h3,h4,h5,h6,h7,h8⟩:=cells_spec (G:=G) (cv:=cv) (j0+1) (fun x hx=>hc x (List.mem_cons_of_mem _ hx)) hr
   refine⟨by simp[h1],by simp[h0], ?_,h3,fun v hv=> ?_,fun p hp=> ?_,fun i k' hi=> ?_,fun i s e hi=> ?_,fun x hx=> ?_⟩
   ·have:=perm_mid (a:=[]) (b:=refs0 d) (x:=refs0 d) (.refl _) h2
    simpa[cellEnts,cellPs,psRefs,z2]using this
   ·obtain⟨a1,a2,a3,a4⟩:=h4 v fun i hi=>by have:=hv (i+1) (by simpa using hi);rwa [show j0+(i+1)=j0+1+i by omega,List.getD_cons_succ]at this
    refine⟨a1,by simp[openCells,a2],fun i k' hi=> ?_,fun i s e hi=> ?_⟩
    ·cases i with
     |zero=>
      simp at hi
      subst hi
      have:=hv 0 (by simp)
      rw[Nat.add_zero,List.getD_cons_zero]at this
      simp only[openCells,List.getD_cons_zero,this]
     |succ i=>simpa[openCells]using a3 i k' (by simpa using hi)
    ·cases i with
     |zero=>simp at hi
     |succ i=>simpa[openCells]using a4 i s e (by simpa using hi)
   ·simp only[cellPs,List.mem_cons]at hp
    rcases hp with rfl |hp
    ·exact⟨0,k,rfl,rfl,by simp only;rw[z1];exact hf⟩
    ·obtain⟨i,k',a,b,c⟩:=h5 p hp
     exact⟨i+1,k',by simpa using a,by rw[show j0+(i+1)=j0+1+i by omega];simpa using b,c⟩
   ·cases i with
    |zero=>
     simp at hi
     subst hi
     exact⟨List.mem_cons_self ..,by simp[z1],by simpa using hf⟩
    |succ i=>
     obtain⟨a,b,c⟩:=h6 i k' (by simpa using hi)
     rw[show j0+(i+1)=j0+1+i by omega]
     exact⟨List.mem_cons_of_mem _ a,by simpa using b,by simpa using c⟩
   ·cases i with
    |zero=>simp at hi
    |succ i=>
     obtain⟨a,b⟩:=h7 i s e (by simpa using hi)
     rw[show j0+(i+1)=j0+1+i by omega]
     exact⟨a,by simpa using b⟩
   ·obtain⟨i,s,e,a,b⟩:=h8 x hx
    exact⟨i+1,s,e,by simpa using a,by rw[show j0+(i+1)=j0+1+i by omega];simpa using b⟩
  ·cases h
 | .o s e::ms,d::ds,l,ids,j0,hc,h=>by
  simp only[packCells]at h
  split at h
  ·rename_i x ix l' n' ho hr
   simp only[zq5,Prod.mk.injEq]at h
   obtain⟨rfl,rfl⟩:=h
   obtain⟨h1,h0,h2,h3,h4,h5,h6,h7,h8⟩:=cells_spec (G:=G) (cv:=cv) (j0+1) (fun x hx=>hc x (List.mem_cons_of_mem _ hx)) hr
   obtain⟨t1,t2,t3,t4⟩:=takeOwn_spec (G:=G) (s:=s) (v:=cv j0) ho
   refine⟨by simp[h1],by simp[h0], ?_,by simp only[cellEnts,jH,List.map_cons,t3,h3],fun v hv=> ?_,fun p hp=> ?_,fun i k' hi=> ?_,fun i s' e' hi=> ?_,fun y hy=> ?_⟩
   ·have:=perm_mid (a:=ix) (b:=[]) (x:=ix) (by simp) h2
    have e1:(cellEnts V G cv j0 (.o s e::ms) (d::ds)).filterMap (·.src)=ix++(cellEnts V G cv (j0+1) ms ds).filterMap (·.src):=by
     rw[t1]
     simp only[cellEnts,List.filterMap_cons]
     cases (entOwn V G s e (cv j0) d).src<;>rfl
    rw[e1]
    simpa[cellPs]using this
   ·obtain⟨a1,a2,a3,a4⟩:=h4 v fun i hi=>by have:=hv (i+1) (by simpa using hi);rwa [show j0+(i+1)=j0+1+i by omega,List.getD_cons_succ]at this
    have hv0:=hv 0 (by simp)
    rw[Nat.add_zero,List.getD_cons_zero]at hv0
    refine⟨by simp only[openCells,cellEnts,List.map_cons,t2,t3,hv0,a1],by simp[openCells,a2],fun i k' hi=> ?_,fun i s' e' hi=> ?_⟩
    ·cases i with
     |zero=>simp at hi
     |succ i=>simpa[openCells]using a3 i k' (by simpa using hi)
    ·cases i with
     |zero=>
      simp at hi
      obtain⟨rfl,rfl⟩:=hi
      simp only[openCells,List.getD_cons_zero,hv0]
     |succ i=>simpa[openCells]using a4 i s' e' (by simpa using hi)
   ·obtain⟨i,k',a,b,c⟩:=h5 p hp
    exact⟨i+1,k',by simpa using a,by rw[show j0+(i+1)=j0+1+i by omega];simpa using b,c⟩
   ·cases i with
    |zero=>simp at hi
    |succ i=>
     obtain⟨a,b,c⟩:=h6 i k' (by simpa using hi)
     rw[show j0+(i+1)=j0+1+i by omega]
     exact⟨a,by simpa using b,by simpa using c⟩
   ·cases i with
    |zero=>
     simp at hi
     obtain⟨rfl,rfl⟩:=hi
     exact⟨List.mem_cons_self ..,by rw[Nat.add_zero,List.getD_cons_zero,List.getD_cons_zero,←t1];exact ho⟩
    |succ i=>
     obtain⟨a,b⟩:=h7 i s' e' (by simpa using hi)
     rw[show j0+(i+1)=j0+1+i by omega]
     exact⟨List.mem_cons_of_mem _ a,by simpa using b⟩
   ·simp only[cellEnts,List.mem_cons]at hy
    rcases hy with rfl |hy
    ·exact⟨0,s,e,rfl,rfl⟩
    ·obtain⟨i,s',e',a,b⟩:=h8 y hy
     exact⟨i+1,s',e',by simpa using a,by rw[show j0+(i+1)=j0+1+i by omega];simpa using b⟩
  ·cases h
 |[],_::_,_,_,_,_,h=>by simp[packCells]at h
 | .p _::_,[],_,_,_,_,h=>by simp[packCells]at h
 | .o _ _::_,[],_,_,_,_,h=>by simp[packCells]at h
end
end Go.Proofs.Ytkfnkiejikhglaa.GD
