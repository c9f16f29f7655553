import Derived.Test.YtkfnkiejikhglaaL1
import Derived.Test.YtkfnkiejikhglaaRTrieFinds
set_option linter.unusedVariables false
set_option linter.unusedSimpArgs false
set_option linter.unusedSectionVars false
namespace Go.Proofs.Ytkfnkiejikhglaa.Own
open Go Go.Proofs.Ytkfnkiejikhglaa.GD Go.Proofs.Ytkfnkiejikhglaa.GD.Trie Go.Sort
attribute [local irreducible] aF
noncomputable def pK (f:Int) (k:Bs):D:= .agg [.int .u8 (aF f k).f,.int .u64 ((aF f k).h:Int),.int .u64 ((aF f k).l:Int),.int .i64 ((aF f k).n:Int)]
theorem BQ:(∀ f k,(pK f k).cell 0= .int .u8 (aF f k).f)∧(∀ f k,(pK f k).cell 1= .int .u64 ((aF f k).h:Int))∧(∀ f k,(pK f k).cell 2= .int .u64 ((aF f k).l:Int))∧(∀ f k,(pK f k).cell 3= .int .i64 ((aF f k).n:Int))∧
  (∀ f k,D.agg [.int .u8 (aF f k).f,.int .u64 ((aF f k).h:Int),.int .u64 ((aF f k).l:Int),.int .i64 ((aF f k).n:Int)]=pK f k):=⟨fun _ _=>rfl,fun _ _=>rfl,fun _ _=>rfl,fun _ _=>rfl,fun _ _=>rfl⟩
theorem ET {f:Int} {a b:Bs} (ha:jT f a) (hb:jT f b):(decide ((aF f a).f=(aF f b).f)&&(decide (((aF f a).h:Int)=(aF f b).h)&&(decide (((aF f a).l:Int)=(aF f b).l)&&decide (((aF f a).n:Int)=(aF f b).n))))=decide (a=b):=by
 have:=y7 ha.sp.1 hb.sp.1 (by rw[ha.sp.2.1,hb.sp.2.1])
 rw[ha.sp.2.2,hb.sp.2.2]at this
 exact this
theorem zi {f:Int} {a b:Bs} (ha:jT f a) (hb:jT f b):Cl ty tab 31 [pK f a,pK f b]=some [.bool (fM a b)]:=by
 have:=zf (aF f a).f (aF f a).h (aF f a).l (aF f a).n (aF f b).f (aF f b).h (aF f b).l (aF f b).n
 rw[z8 ha.sp.1 hb.sp.1]at this
 have e:decide (Bv (aF f a) (aF f b)<0)=fM a b:=by
  rw[Bool.eq_iff_iff,decide_eq_true_eq,z9,ha.sp.2.1,hb.sp.2.1,ha.sp.2.2,hb.sp.2.2]
  simp
 rw[e]at this
 exact this
theorem EU {a i m:Nat} (hl:m≤100000) (h1:i≤m) (h2:a≤i+1):(a+1)*32≤140737488355328∧(a+1+1)*32≤140737488355328:=by omega
theorem xC {f:Int} (n1:Bool) (K:List Bs) (p:Bs) (hs:kW K) (hK:∀ k,k∈K→jT f k) (hp:jT f p) (hl:K.length≤100000):∃ nb,Cl ty tab 96 [.sl 46 n1 (K.map (pK f)),pK f p]=some [.sl 46 nb ((bK p K).map (pK f))]:=by
 obtain⟨k,hk⟩:=bY
 refine⟨if p∈K then n1 else false, ?_⟩
 unfold pK
 refine kS k _ _ _ _ _ _ ?_
 unfold bV
 have hlen:(K.map (pK f)).length=K.length:=by simp
 rw[show (fun k=>D.agg [.int .u8 (aF f k).f,.int .u64 ((aF f k).h:Int),.int .u64 ((aF f k).l:Int),.int .i64 ((aF f k).n:Int)])=pK f from rfl]
 have:=bk (F:=bV.b0 (Cl ty tab) k n1 (K.map (pK f))) (σ:=Nat×Bool×List D)
  (fun s=>[.ov 46 s.2.2.isEmpty s.2.2,.bool s.2.1,.int .i64 s.1,.pv [.int .u8 (aF f p).f,.int .u64 ((aF f p).h:Int),.int .u64 ((aF f p).l:Int),.int .i64 ((aF f p).n:Int)]])
  (fun s=>some [if s.2.1=true then .sl 46 false (s.2.2++(K.drop s.1).map (pK f))else .sl 46 (if p∈K.drop s.1 then n1 else false) (s.2.2++(bK p (K.drop s.1)).map (pK f))])
  (fun s=>K.length - s.1) (fun s=>s.1≤K.length∧s.2.2.length≤s.1+1∧(if s.2.1=true then p∉K.drop s.1∧s.2.2≠[]else s.2.2=(K.take s.1).map (pK f))) (fun s hi again ih=> ?_) k (0,false,[]) ⟨Nat.zero_le _,by simp,by simp⟩ (by dsimp only;omega)
 ·simpa using this
 ·obtain⟨i,done,out⟩:=s
  obtain⟨h1,h2,h3⟩:=hi
  dsimp only at h1 h2 h3 ih⊢
  obtain⟨e3,e4⟩:=EU hl h1 h2
  unfold bV.b0
  rcases Nat.lt_or_ge i K.length with hlt |hge
  ·have g:(K.map (pK f)).getD i .undef=pK f K[i]:=aP hlt
   have BM:K.drop i=K[i]::K.drop (i+1):=List.drop_eq_getElem_cons hlt
   have hx:=hK K[i] (List.getElem_mem hlt)
   have hsd:kW (K.drop i):=hs.sublist (List.drop_sublist ..)
   have G9:K.take (i+1)=K.take i++[K[i]]:=by rw[List.take_add_one,zq4 hlt];rfl
   have hd:=ET hx hp
   have I6:=zi hp hx
   rw[BM]at h3 hsd
   obtain⟨hs1,hs2⟩:=List.pairwise_cons.1 hsd
   have MT:∀ z:D,(out++[z]).isEmpty=false:=fun z=>by simp
   have MU:∀ z y:D,((out++[z])++[y]).isEmpty=false:=fun z y=>by simp
   have l1:∀ z:D,(out++[z]).length=out.length+1:=fun z=>by simp
   have l2:∀ z y:D,(out++[z]++[y]).length=out.length+1+1:=fun z y=>by simp
   have GC:=ih (i+1,true,out++[pK f K[i]])
   have GF:=ih (i+1,false,out++[pK f K[i]])
   have GG:=ih (i+1,true,out++[pK f p]++[pK f K[i]])
   simp only[MT,MU,l1,l2,if_true,Bool.false_eq_true,if_false]at GC GF GG
   clear ih
   rw[BM]
   generalize K[i]=x at*
   cases done
   ·simp only[Bool.false_eq_true,if_false]at h3⊢
    by_cases vh:x=p
    ·subst vh
     rw[decide_eq_true rfl]at hd
     have hres:out++(bK x (x::K.drop (i+1))).map (pK f)=K.map (pK f):=by
         have:bK x (x::K.drop (i+1))=x::K.drop (i+1):=by unfold bK;exact if_pos rfl
         rw[this,←BM,h3,←List.map_append,List.take_append_drop]
     rw[hres,if_pos (List.mem_cons_self ..)]
     clear hres h3
     clear GC GF GG hs1 hs2 hsd hs hK hx hp
     simp (disch:=omega) only[ay,hlen,g,BQ,hd,e3,e4,l1]
    ·rw[decide_eq_false vh]at hd
     have AR: ¬p=x:=fun h=>vh h.symm
     cases gL:fM p x
     ·have MV:fM x p=true:=by
       rcases ow x p with h |h |h
       ·exact h
       ·exact absurd h vh
       ·rw[gL]at h;cases h
      have e5:bK p (x::K.drop (i+1))=x::bK p (K.drop (i+1)):=by show (if p=x then x::K.drop (i+1)else if fM p x=true then p::x::K.drop (i+1)else x::bK p (K.drop (i+1)))=_;rw[if_neg AR,if_neg (by rw[gL];simp)]
      have e6:(p∈x::K.drop (i+1))↔p∈K.drop (i+1):=by rw[List.mem_cons];exact⟨fun h=>h.resolve_left AR,.inr⟩
      have b9:=GF ⟨hlt,Nat.succ_le_succ h2,by rw[G9,List.map_append,h3];rfl⟩ (Nat.sub_lt_sub_left hlt (Nat.lt_succ_self i))
      rw[List.append_assoc,List.singleton_append]at b9
      rw[gL]at I6
      rw[e5,List.map_cons]
      have e7:(if p∈x::K.drop (i+1)then n1 else false)=(if p∈K.drop (i+1)then n1 else false):=by simp only[e6]
      rw[e7]
      clear GC GF GG hs1 hs2 hsd hs hK hx hp
      simp (disch:=omega) only[ay,hlen,g,BQ,hd,I6,e3,e4,l1,Int.natCast_add,Int.natCast_one]at b9⊢
      exact b9
     ·have e5:bK p (x::K.drop (i+1))=p::x::K.drop (i+1):=by show (if p=x then x::K.drop (i+1)else if fM p x=true then p::x::K.drop (i+1)else x::bK p (K.drop (i+1)))=_;rw[if_neg AR,if_pos gL]
      have HC:p∉K.drop (i+1):=fun h=>by
       have:=jQ gL (hs1 p h)
       rw[dS]at this;cases this
      have hn:p∉x::K.drop (i+1):=fun h=>(List.mem_cons.1 h).elim AR HC
      have b9:=GG ⟨hlt,by rw[h3,List.length_map,List.length_take];clear GC GF GG;omega,HC,by simp⟩ (Nat.sub_lt_sub_left hlt (Nat.lt_succ_self i))
      rw[gL]at I6
      rw[e5,if_neg hn,List.map_cons,List.map_cons]
      have e8:out++[pK f p]++[pK f x]++(K.drop (i+1)).map (pK f)=out++pK f p::pK f x::(K.drop (i+1)).map (pK f):=by simp
      rw[e8]at b9
      clear GC GF GG hs1 hs2 hsd hs hK hx hp
      simp (disch:=omega) only[ay,hlen,g,BQ,hd,I6,e3,l1,e4,Int.natCast_add,Int.natCast_one]at b9⊢
      exact b9
   ·simp only[if_true]at h3⊢
    obtain⟨hn,hne⟩:=h3
    have vh: ¬x=p:=fun h=>hn (by rw[h];exact List.mem_cons_self ..)
    rw[decide_eq_false vh]at hd
    have b9:=GC ⟨hlt,Nat.succ_le_succ h2,fun h=>hn (List.mem_cons_of_mem _ h),by simp⟩ (Nat.sub_lt_sub_left hlt (Nat.lt_succ_self i))
    rw[List.append_assoc,List.singleton_append]at b9
    rw[List.map_cons]
    clear GC GF GG hs1 hs2 hsd hs hK hx hp
    simp (disch:=omega) only[ay,hlen,g,BQ,hd,e3,e4,l1,Int.natCast_add,Int.natCast_one]at b9⊢
    exact b9
  ·have:i=K.length:=by omega
   subst this
   rw[List.drop_length]
   have e1: ¬((K.length:Nat):Int)<((K.length:Nat):Int):=by omega
   have l1:∀ z:D,(out++[z]).length=out.length+1:=fun z=>by simp
   clear ih
   cases done
   ·simp only[Bool.false_eq_true,if_false,List.not_mem_nil,bK,List.map_cons,List.map_nil]
    simp (disch:=omega) only[ay,hlen,e1,e3,e4,l1,BQ]
   ·simp only[if_true]at h3⊢
    have:out.isEmpty=false:=by simpa using h3.2
    simp (disch:=omega) only[ay,hlen,e1,e3,e4,l1,this,List.map_nil,List.append_nil]
def mB (f:Int) (l:List Er):List Bs:=(l.filter fun x=>decide (x.f=f)).map fun x=>x.en.k
def DK (key:Bs) (f:Int):List Er→List Int→List Int
 |[],acc=>acc
 |x::l,acc=>DK key f l (if x.f=f∧x.en.k=key then x.vs else acc)
def vL (K:List Bs) (i:Nat) (key:Bs):Nat→Int×Int→Int×Int
 |0,c=>c
 |k+1,c=>if i<k+1 then vL K i key k (if pre key (K.getD (k+1) [])=true then (if Trie.aM (K.getD (k+1) []) key.length=true then (c.1,((k+1:Nat):Int))else (((k+1:Nat):Int),c.2))else c)else c
noncomputable def qs (f:Int) (L:List Er) (K:List Bs) (i:Nat):Nr:=
 ⟨(aF f (K.getD i [])).f,(aF f (K.getD i [])).h,(aF f (K.getD i [])).l,(aF f (K.getD i [])).n,(DK (K.getD i []) f L []).isEmpty,DK (K.getD i []) f L [],(vL K i (K.getD i []) (K.length - 1) (-1, -1)).1,(vL K i (K.getD i []) (K.length - 1) (-1, -1)).2⟩
theorem GH {f:Int} {x:Er} (hx:x.vd) {key:Bs} (hk:jT f key):(decide (x.f=(aF f key).f)&&(decide ((x.h:Int)=(aF f key).h)&&(decide ((x.l:Int)=(aF f key).l)&&decide (x.n=((aF f key).n:Int)))))=decide (x.f=f∧x.en.k=key):=by
 by_cases hf:x.f=f
 ·have:=y7 hx.ok hk.sp.1 (by rw[hk.sp.2.1];exact hf)
  rw[hk.sp.2.2]at this
  rw[hx.n0]
  refine this.trans (decide_eq_decide.2 ?_)
  exact⟨fun h=>⟨hf,h⟩,fun h=>h.2⟩
 ·have h1: ¬x.f=(aF f key).f:=by rw[hk.sp.2.1];exact hf
  rw[decide_eq_false h1,Bool.false_and]
  exact (decide_eq_false (p:=x.f=f∧x.en.k=key) fun h=>hf h.1).symm
theorem sX {f:Int} (k:Nat) (hk:9223372036854775808<k) (K:List Bs) (Al:kW K) (hK:∀ q,q∈K→jT f q) (hl:K.length≤100000) (i:Nat) (hi:i<K.length) (DL:Bool) (ii:Int) (eu:List D→Option (List D)) (vs:List Int) (out:List D) (no:Bool) (ho:out.length≤100000) (c:Int×Int):
  iter k (au.b4 (Cl ty tab) k f eu [.sl 46 DL (K.map (pK f)),.int .i64 ii] [.ov 69 no out,.int .i64 i]) [.int .i64 ((K.length - 1:Nat):Int),.pv [.int .u8 (aF f K[i]).f,.int .u64 ((aF f K[i]).h:Int),.int .u64 ((aF f K[i]).l:Int),.int .i64 ((aF f K[i]).n:Int),.ov 3 vs.isEmpty (gT vs),.int .i64 c.1,.int .i64 c.2],.ov 69 no out]=
   eu [.ov 69 false (out++[bL ⟨(aF f K[i]).f,(aF f K[i]).h,(aF f K[i]).l,(aF f K[i]).n,vs.isEmpty,vs,(vL K i K[i] (K.length - 1) c).1,(vL K i K[i] (K.length - 1) c).2⟩]),.int .i64 ((i:Int)+1)]:=by
 have hlen:(K.map (pK f)).length=K.length:=by simp
 have gi:(K.map (pK f)).getD i .undef=pK f K[i]:=aP hi
 have oi:=hK K[i] (List.getElem_mem hi)
 refine bk (σ:=Nat×Int×Int) (F:=au.b4 (Cl ty tab) k f eu [.sl 46 DL (K.map (pK f)),.int .i64 ii] [.ov 69 no out,.int .i64 i])
  (fun s=>[.int .i64 s.1,.pv [.int .u8 (aF f K[i]).f,.int .u64 ((aF f K[i]).h:Int),.int .u64 ((aF f K[i]).l:Int),.int .i64 ((aF f K[i]).n:Int),.ov 3 vs.isEmpty (gT vs),.int .i64 s.2.1,.int .i64 s.2.2],.ov 69 no out])
  (fun s=>eu [.ov 69 false (out++[bL ⟨(aF f K[i]).f,(aF f K[i]).h,(aF f K[i]).l,(aF f K[i]).n,vs.isEmpty,vs,(vL K i K[i] s.1 s.2).1,(vL K i K[i] s.1 s.2).2⟩]),.int .i64 ((i:Int)+1)]) (fun s=>s.1) (fun s=>s.1<K.length) (fun s hs again ih=> ?_) k (K.length - 1,c) (by dsimp only;omega) (by dsimp only;omega)
 obtain⟨q,c0,c1⟩:=s
 dsimp only at hs ih⊢
 unfold au.b4
 by_cases hq:i<q
 ·obtain⟨q,rfl⟩:∃ m,q=m+1:=⟨q - 1,by omega⟩
  have gq:(K.map (pK f)).getD (q+1) .undef=pK f K[q+1]:=aP hs
  have oq:=hK K[q+1] (List.getElem_mem hs)
  have qU:K.getD (q+1) []=K[q+1]:=by simp[zq1,hs]
  have IE:=nu oi.sp.1 oq.sp.1
  rw[oi.sp.2.1,oq.sp.2.1,oi.sp.2.2,oq.sp.2.2,decide_eq_true rfl,Bool.true_and]at IE
  have DB:Cl ty tab 54 [pK f K[i],pK f K[q+1]]=some [.bool (pre K[i] K[q+1])]:=IE
  have iU:=ih (q,if pre K[i] K[q+1]=true then (if Trie.aM K[q+1] K[i].length=true then (c0,((q+1:Nat):Int))else (((q+1:Nat):Int),c1))else (c0,c1)) (by dsimp only;omega) (by dsimp only;omega)
  dsimp only at iU
  clear ih
  have hch:vL K i K[i] (q+1) (c0,c1)=vL K i K[i] q (if pre K[i] K[q+1]=true then (if Trie.aM K[q+1] K[i].length=true then (c0,((q+1:Nat):Int))else (((q+1:Nat):Int),c1))else (c0,c1)):=by
   rw[vL,if_pos hq,qU]
  rw[hch]
  have e1:(i:Int)<((q+1:Nat):Int):=by omega
  have e2:((q+1:Nat):Int) - 1=(q:Int):=by omega
  have e0:((q+1:Nat):Int).toNat=q+1:=by omega
  have gL:((q+1:Nat):Int)<((K.length:Nat):Int):=by omega
  cases mA:pre K[i] K[q+1]
  ·rw[mA]at DB iU
   simp only[Bool.false_eq_true,if_false]at iU⊢
   simp (disch:=omega) only[ay,hlen,gi,gq,BQ,DB,e1,e2,e0]
   exact iU
  ·rw[mA]at DB iU
   have Lp:(aF f K[i]).n=K[i].length:=by rw[←(aF f K[i]).len,oi.sp.2.2]
   have hpl:=(dH.1 mA).length_le
   have MW:(aF f K[q+1]).n=K[q+1].length:=by rw[←(aF f K[q+1]).len,oq.sp.2.2]
   have hw:=oq.sp.1.all.2.2.1
   by_cases FA:K[i].length<ac f
   ·have hb:=EQ oq.sp.1.r oq.sp.1.all.2.1 oq.sp.1.all.1 (i:=K[i].length) (by rw[oq.sp.2.1];exact FA)
    have MX:bN (aF f K[q+1]).h (aF f K[q+1]).l (ac (aF f K[q+1]).f - 1 - K[i].length)=Trie.aM K[q+1] K[i].length:=by
     have:=oq.sp.1.aM (i:=K[i].length) (by rw[oq.sp.2.1];exact FA)
     rw[oq.sp.2.2]at this
     rw[this]
     rfl
    rw[MX,oq.sp.2.1,←Lp]at hb
    rw[←Lp]at iU⊢
    simp only[if_true]at iU⊢
    cases oE:Trie.aM K[q+1] (aF f K[i]).n
    ·rw[oE]at hb iU
     have b1:Nat.beq (5+0) 5=true:=rfl
     have b2:Nat.beq (5+0) 6=false:=rfl
     have e9:(0:Int)<((2:Nat):Int):=by omega
     simp only[Bool.false_eq_true,if_false]at iU⊢
     simp (disch:=omega) only[ay,hlen,gi,gq,BQ,DB,hb,bi,e1,e2,e0,Int.toNat_zero,b1,b2,e9]
     exact iU
    ·rw[oE]at hb iU
     have b1:Nat.beq (5+1) 5=false:=rfl
     have b2:Nat.beq (5+1) 6=true:=rfl
     have e9:(1:Int)<((2:Nat):Int):=by omega
     simp only[if_true]at iU⊢
     simp (disch:=omega) only[ay,hlen,gi,gq,BQ,DB,hb,bi,e1,e2,e0,Int.toNat_one,b1,b2,e9]
     exact iU
   ·
    have Kz:ac (aF f K[q+1]).f=ac f:=by rw[oq.sp.2.1]
    exfalso
    have hlt:=(List.pairwise_iff_getElem.1 Al) i (q+1) hi hs hq
    have he:K[i]=K[q+1]:=(dH.1 mA).eq_of_length (by rw[Kz,MW]at hw;omega)
    exact yV hlt he
 ·have hch:vL K i K[i] q (c0,c1)=(c0,c1):=by
   cases q with
   |zero=>rfl
   |succ q=>rw[vL,if_neg hq]
  have e1: ¬(i:Int)<(q:Int):=by omega
  rw[hch]
  have e3:(out.length+1)*72≤140737488355328:=by omega
  clear ih
  have fo:=pp.2.2.2.2.2.2.2 ⟨(aF f K[i]).f,(aF f K[i]).h,(aF f K[i]).l,(aF f K[i]).n,vs.isEmpty,vs,c0,c1⟩
  dsimp only at fo
  simp (disch:=omega) only[ay,e1,e3,fo]
end Go.Proofs.Ytkfnkiejikhglaa.Own
namespace Go.Proofs.Ytkfnkiejikhglaa.Own
open Go Go.Proofs.Ytkfnkiejikhglaa.GD Go.Proofs.Ytkfnkiejikhglaa.GD.Trie Go.Sort
attribute [local irreducible] aF
theorem xD {f:Int} (k:Nat) (hk:9223372036854775808<k) (L:List Er) (hL:∀ x,x∈L→x.vd) (FB:L.length≤1000) (K:List Bs) (Al:kW K) (hK:∀ q,q∈K→jT f q) (hl:K.length≤100000) (i:Nat) (hi:i<K.length) (DL:Bool) (ii:Int) (eu:List D→Option (List D)) (out:List D) (no:Bool) (ho:out.length≤100000):
  iter k (au.b3 (Cl ty tab) k (L.map aB) f eu [.sl 46 DL (K.map (pK f)),.int .i64 ii] [.ov 69 no out,.int .i64 i]) [.int .i64 0,.pv [.int .u8 (aF f K[i]).f,.int .u64 ((aF f K[i]).h:Int),.int .u64 ((aF f K[i]).l:Int),.int .i64 ((aF f K[i]).n:Int),.ov 3 true [],.int .i64 (-1),.int .i64 (-1)],.ov 69 no out]=
   eu [.ov 69 false (out++[bL (qs f L K i)]),.int .i64 ((i:Int)+1)]:=by
 have hlen:(L.map aB).length=L.length:=by simp
 have uo:(K.map (pK f)).length=K.length:=by simp
 have gi:(K.map (pK f)).getD i .undef=pK f K[i]:=aP hi
 have oi:=hK K[i] (List.getElem_mem hi)
 have qU:K.getD i []=K[i]:=by simp[zq1,hi]
 have:=bk (F:=au.b3 (Cl ty tab) k (L.map aB) f eu [.sl 46 DL (K.map (pK f)),.int .i64 ii] [.ov 69 no out,.int .i64 i]) (σ:=Nat×List Int)
  (fun s=>[.int .i64 s.1,.pv [.int .u8 (aF f K[i]).f,.int .u64 ((aF f K[i]).h:Int),.int .u64 ((aF f K[i]).l:Int),.int .i64 ((aF f K[i]).n:Int),.ov 3 s.2.isEmpty (gT s.2),.int .i64 (-1),.int .i64 (-1)],.ov 69 no out])
  (fun s=>eu [.ov 69 false (out++[bL ⟨(aF f K[i]).f,(aF f K[i]).h,(aF f K[i]).l,(aF f K[i]).n,(DK K[i] f (L.drop s.1) s.2).isEmpty,DK K[i] f (L.drop s.1) s.2,(vL K i K[i] (K.length - 1) (-1, -1)).1,(vL K i K[i] (K.length - 1) (-1, -1)).2⟩]),.int .i64 ((i:Int)+1)])
  (fun s=>L.length - s.1) (fun s=>s.1≤L.length∧s.2.length≤5000) (fun s hs again ih=> ?_) k (0,[]) ⟨Nat.zero_le _,by simp⟩ (by dsimp only;omega)
 ·refine this.trans ?_
  unfold qs
  rw[qU,List.drop_zero]
 ·obtain⟨j,vs⟩:=s
  obtain⟨h1,h2⟩:=hs
  dsimp only at h1 h2 ih⊢
  unfold au.b3
  rcases Nat.lt_or_ge j L.length with hlt |hge
  ·have gj:(L.map aB).getD j .undef=aB L[j]:=aP hlt
   have vx:=hL L[j] (List.getElem_mem hlt)
   have hd:=GH vx oi
   have It:=ih (j+1,L[j].vs) ⟨hlt,vx.vs.2⟩ (Nat.sub_lt_sub_left hlt (Nat.lt_succ_self j))
   have I7:=ih (j+1,vs) ⟨hlt,h2⟩ (Nat.sub_lt_sub_left hlt (Nat.lt_succ_self j))
   clear ih
   dsimp only at It I7
   rw[List.drop_eq_getElem_cons hlt]
   unfold DK
   have al:(0+L[j].vs.length)*8≤140737488355328:=by have:=vx.vs.2;omega
   have Lq:L[j].vs.length*8≤140737488355328:=by have:=vx.vs.2;omega
   have KA:L[j].vs.isEmpty=false:=by simpa using vx.vs.1
   generalize L[j]=x at*
   by_cases hm:x.f=f∧x.en.k=K[i]
   ·rw[decide_eq_true hm]at hd
    rw[if_pos hm]
    rw[KA]at It
    clear vx oi I7 hK Al hL
    simp (disch:=omega) only[ay,hlen,uo,gi,gj,enc,BQ,hd,al,Lq,Int.natCast_add,Int.natCast_one]at It⊢
    exact It
   ·rw[decide_eq_false hm]at hd
    rw[if_neg hm]
    clear vx oi It hK Al hL
    simp (disch:=omega) only[ay,hlen,uo,gi,gj,enc,BQ,hd,al,Lq,Int.natCast_add,Int.natCast_one]at I7⊢
    exact I7
  ·have:j=L.length:=by omega
   subst this
   have e1: ¬((L.length:Nat):Int)<((L.length:Nat):Int):=by omega
   have e2:((K.length:Nat):Int) - 1=((K.length - 1:Nat):Int):=by omega
   have hc:=sX k hk K Al hK hl i hi DL ii eu vs out no ho (-1, -1)
   rw[List.drop_length]
   unfold DK
   clear ih
   simp (disch:=omega) only[ay,hlen,uo,e1,e2]
   exact hc
theorem BI {α:Type} (g:Nat→α) (n:Nat):(List.range (n+1)).map g=(List.range n).map g++[g n]:=by
 rw[List.range_succ,List.map_append];rfl
theorem zj {f:Int} (k:Nat) (hk:9223372036854775808<k) (L:List Er) (hL:∀ x,x∈L→x.vd) (FB:L.length≤1000) (K:List Bs) (Al:kW K) (hK:∀ q,q∈K→jT f q) (hl:K.length≤100000) (DL:Bool) (ii:Int):
  iter k (au.b2 (Cl ty tab) k (L.map aB) f [.sl 46 DL (K.map (pK f)),.int .i64 ii]) [.ov 69 true [],.int .i64 0]=some [.ov 69 K.isEmpty (((List.range K.length).map (qs f L K)).map bL)]:=by
 have uo:(K.map (pK f)).length=K.length:=by simp
 have:=bP (F:=au.b2 (Cl ty tab) k (L.map aB) f [.sl 46 DL (K.map (pK f)),.int .i64 ii]) K.length (fun i=>[.ov 69 (decide (i=0)) (((List.range i).map (qs f L K)).map bL),.int .i64 i])
  (fun _=>some [.ov 69 K.isEmpty (((List.range K.length).map (qs f L K)).map bL)]) (fun i hi again ha=> ?_) (fun again=> ?_) k (by omega) 0 (by omega)
 ·exact this
 ·unfold au.b2
  have gi:(K.map (pK f)).getD i .undef=pK f K[i]:=aP hi
  have hv:=xD k hk L hL FB K Al hK hl i hi DL ii again (((List.range i).map (qs f L K)).map bL) (decide (i=0)) (by simp;omega)
  rw[BI,List.map_append,show decide (i+1=0)=false from decide_eq_false (by omega)]at ha
  generalize (((List.range i).map (qs f L K)).map bL)=out at*
  clear hK Al hL
  simp (disch:=omega) only[ay,uo,gi,BQ]
  rw[hv]
  rw[Int.natCast_add i 1]at ha
  exact ha
 ·unfold au.b2
  have e1: ¬((K.length:Nat):Int)<((K.length:Nat):Int):=by omega
  have e2:decide (K.length=0)=K.isEmpty:=by cases K<;>simp
  rw[e2]
  clear hK Al hL
  simp (disch:=omega) only[ay,uo,e1]
theorem nv (p:Bs):∀ K:List Bs,(bK p K).length≤K.length+1
 |[]=>by simp[bK]
 |x::K=>by
  have ih:=nv p K
  unfold bK
  split
  ·simp
  ·split
   ·simp
   ·simp only[List.length_cons];omega
theorem uq {f:Int} {p:Bs} {K:List Bs} (hp:jT f p) (hK:∀ k,k∈K→jT f k):∀ k,k∈bK p K→jT f k:=fun k hk=>by
 rcases (iN p K k).1 hk with rfl |h
 ·exact hp
 ·exact hK k h
theorem EV {f:Int} {a b:Bs} (ha:jT f a):jT f (dX a b):=ha.pre (dm _ _)
theorem xE (f:Int) (l:List Er) (x:Er):mB f (l++[x])=mB f l++(if x.f=f then [x.en.k]else []):=by
 unfold mB
 rw[List.filter_append,List.map_append]
 congr 1
 by_cases h:x.f=f<;>simp[h]
theorem xF (f:Int) (l:List Er) (x:Er):mB f (x::l)=(if x.f=f then [x.en.k]else [])++mB f l:=by
 unfold mB
 by_cases h:x.f=f<;>simp[h]
theorem xG {f:Int} (k:Nat) (hk:9223372036854775808<k) (L:List Er) (hL:∀ x,x∈L→x.vd) (FB:L.length≤200) (i:Nat) (hi:i<L.length) (hfi:L[i].f=f) (aq:List D→Option (List D)) (V:List Bs→Option (List D)) (DJ:D)
  (hV:∀ nb K,kW K→(∀ q,q∈K→jT f q)→K.length≤1+(i+1)*201→aq [.sl 46 nb (K.map (pK f)),.int .i64 ((i:Int)+1)]=V K) (nb:Bool) (K:List Bs) (Al:kW K) (hK:∀ q,q∈K→jT f q) (Ng:K.length≤1+i*201+1):
  iter k (au.b1 (Cl ty tab) k (L.map aB) f aq [DJ,.int .i64 i]) [.sl 46 nb (K.map (pK f)),.int .i64 0]=V (dU L[i].en.k (mB f (L.take i)) K):=by
 have hlen:(L.map aB).length=L.length:=by simp
 have gi:(L.map aB).getD i .undef=aB L[i]:=aP hi
 have vi:=hL L[i] (List.getElem_mem hi)
 have:=bk (F:=au.b1 (Cl ty tab) k (L.map aB) f aq [DJ,.int .i64 i]) (σ:=Nat×Bool×List Bs) (fun s=>[.sl 46 s.2.1 (s.2.2.map (pK f)),.int .i64 s.1]) (fun s=>V (dU L[i].en.k (mB f ((L.take i).drop s.1)) s.2.2))
  (fun s=>i - s.1) (fun s=>s.1≤i∧kW s.2.2∧(∀ q,q∈s.2.2→jT f q)∧s.2.2.length≤1+i*201+1+s.1) (fun s hs again ih=> ?_) k (0,nb,K) ⟨Nat.zero_le _,Al,hK,by dsimp only;omega⟩ (by dsimp only;omega)
 ·simpa using this
 ·obtain⟨j,nb,K⟩:=s
  obtain⟨h1,h2,h3,h4⟩:=hs
  dsimp only at h1 h2 h3 h4 ih⊢
  unfold au.b1
  rcases Nat.lt_or_ge j i with hlt |hge
  ·have Lr:j<L.length:=by omega
   have gj:(L.map aB).getD j .undef=aB L[j]:=aP Lr
   have vj:=hL L[j] (List.getElem_mem Lr)
   have BM:(L.take i).drop j=L[j]::(L.take i).drop (j+1):=by
    rw[List.drop_eq_getElem_cons (by rw[List.length_take];omega),List.getElem_take]
   rw[BM,xF]
   by_cases G_:L[j].f=f
   ·rw[if_pos G_,List.singleton_append]
    have ht:=BG vi.ok vj.ok (show L[i].pf.f=L[j].pf.f by show L[i].f=L[j].f;rw[hfi,G_])
    have hok:jT f (dX L[i].en.k L[j].en.k):=EV (by have:=vi.Kp;rwa [hfi]at this)
    have fa:L[i].pf.cut (dX L[i].pf.bits L[j].pf.bits).length=aF f (dX L[i].en.k L[j].en.k):=by
     have tb:=sr vi.ok vj.ok
     have e:=vC (f:=f) tb.1 (show L[i].f=f from hfi)
     rw[tb.2]at e
     exact e.symm
    rw[fa]at ht
    have ei:L[i].pf.d= .agg [.int .u8 L[i].f,.int .u64 (L[i].h:Int),.int .u64 (L[i].l:Int),.int .i64 L[i].n]:=by
     show P4 L[i].f L[i].h L[i].l (L[i].pf.n:Nat)=_
     rw[←vi.n0]
    have ej:L[j].pf.d= .agg [.int .u8 L[j].f,.int .u64 (L[j].h:Int),.int .u64 (L[j].l:Int),.int .i64 L[j].n]:=by
     show P4 L[j].f L[j].h L[j].l (L[j].pf.n:Nat)=_
     rw[←vj.n0]
    rw[ei,ej]at ht
    obtain⟨nb',hp⟩:=xC nb K (dX L[i].en.k L[j].en.k) h2 h3 hok (by omega)
    have b9:=ih (j+1,nb',bK (dX L[i].en.k L[j].en.k) K) ⟨hlt,iO _ _ h2,uq hok h3,by
     have:=nv (dX L[i].en.k L[j].en.k) K
     dsimp only;omega⟩ (Nat.sub_lt_sub_left hlt (Nat.lt_succ_self j))
    dsimp only at b9
    have MY:dU L[i].en.k (L[j].en.k::mB f ((L.take i).drop (j+1))) K=dU L[i].en.k (mB f ((L.take i).drop (j+1))) (bK (dX L[i].en.k L[j].en.k) K):=rfl
    rw[MY]
    have gL:(j:Int)<(i:Int):=by omega
    have hdf:decide (L[j].f=f)=true:=decide_eq_true G_
    clear ih vi vj h3 hL hV hK Al h2 ei ej fa hok hfi G_
    generalize L[i]=x at*
    generalize L[j]=y at*
    simp (disch:=omega) only[ay,hlen,gi,gj,enc,hdf,gL,ht,BQ,hp,Int.natCast_add,Int.natCast_one]at b9⊢
    exact b9
   ·rw[if_neg G_,List.nil_append]
    have b9:=ih (j+1,nb,K) ⟨hlt,h2,h3,by dsimp only;omega⟩ (Nat.sub_lt_sub_left hlt (Nat.lt_succ_self j))
    dsimp only at b9
    have gL:(j:Int)<(i:Int):=by omega
    clear ih vi vj h3 hL hV hK Al h2
    generalize L[j]=y at*
    simp (disch:=omega) only[ay,hlen,gj,enc,G_,gL,Int.natCast_add,Int.natCast_one]at b9⊢
    exact b9
  ·have:j=i:=by omega
   subst this
   have hd:(L.take j).drop j=[]:=List.drop_eq_nil_of_le (by rw[List.length_take];omega)
   rw[hd]
   have e1: ¬(j:Int)<(j:Int):=by omega
   have hv:=hV nb K h2 h3 (by omega)
   clear ih hV hL h3 hK Al h2
   simp (disch:=omega) only[ay,e1]
   exact hv
theorem An {f:Int} (nb:Bool) (L:List Er) (hL:∀ x,x∈L→x.vd) (FB:L.length≤200):Cl ty tab 78 [.sl 49 nb (L.map aB),.int .u8 f]=
  some [.ov 69 (fB (mB f L) [] []).isEmpty (((List.range (fB (mB f L) [] []).length).map (qs f L (fB (mB f L) [] []))).map bL)]:=by
 obtain⟨k,hk⟩:=bY
 refine lI k _ _ _ ?_
 unfold au
 have hlen:(L.map aB).length=L.length:=by simp
 have:=bk (F:=au.b0 (Cl ty tab) k (L.map aB) f) (σ:=Nat×Bool×List Bs) (fun s=>[.sl 46 s.2.1 (s.2.2.map (pK f)),.int .i64 s.1])
  (fun s=>some [.ov 69 (fB (mB f (L.drop s.1)) (mB f (L.take s.1)) s.2.2).isEmpty (((List.range (fB (mB f (L.drop s.1)) (mB f (L.take s.1)) s.2.2).length).map (qs f L (fB (mB f (L.drop s.1)) (mB f (L.take s.1)) s.2.2))).map bL)])
  (fun s=>L.length - s.1) (fun s=>s.1≤L.length∧kW s.2.2∧(∀ q,q∈s.2.2→jT f q)∧s.2.2.length≤1+s.1*201) (fun s hs again ih=> ?_) k (0,true,[]) ⟨Nat.zero_le _,List.Pairwise.nil,fun q h=>(by cases h),by simp⟩ (by dsimp only;omega)
 ·simpa[mB]using this
 ·obtain⟨i,nb,K⟩:=s
  obtain⟨h1,h2,h3,h4⟩:=hs
  dsimp only at h1 h2 h3 h4 ih⊢
  unfold au.b0
  rcases Nat.lt_or_ge i L.length with hlt |hge
  ·have gi:(L.map aB).getD i .undef=aB L[i]:=aP hlt
   have vi:=hL L[i] (List.getElem_mem hlt)
   have G9:L.take (i+1)=L.take i++[L[i]]:=by rw[List.take_add_one,zq4 hlt];rfl
   rw[List.drop_eq_getElem_cons hlt,xF]
   by_cases hfi:L[i].f=f
   ·rw[if_pos hfi,List.singleton_append]
    have hok:jT f L[i].en.k:=by have:=vi.Kp;rwa [hfi]at this
    have Ls:pK f L[i].en.k= .agg [.int .u8 L[i].f,.int .u64 (L[i].h:Int),.int .u64 (L[i].l:Int),.int .i64 L[i].n]:=by
     have e:aF f L[i].en.k=L[i].pf:=vC vi.ok (show L[i].f=f from hfi)
     unfold pK
     rw[e]
     show P4 L[i].f L[i].h L[i].l (L[i].pf.n:Nat)=_
     rw[←vi.n0]
    obtain⟨nb',hp⟩:=xC nb K L[i].en.k h2 h3 hok (by omega)
    rw[Ls]at hp
    have hpl:=nv L[i].en.k K
    have G8:=xG k hk L hL FB i hlt hfi again (fun K'=>some [.ov 69 (fB (mB f (L.drop (i+1))) (mB f (L.take i)++[L[i].en.k]) K').isEmpty (((List.range (fB (mB f (L.drop (i+1))) (mB f (L.take i)++[L[i].en.k]) K').length).map (qs f L (fB (mB f (L.drop (i+1))) (mB f (L.take i)++[L[i].en.k]) K'))).map bL)]) (.sl 46 nb (K.map (pK f))) (fun nb2 K2 g1 g2 g3=>by
     have:=ih (i+1,nb2,K2) ⟨hlt,g1,g2,g3⟩ (Nat.sub_lt_sub_left hlt (Nat.lt_succ_self i))
     dsimp only at this
     rw[G9,xE,if_pos hfi,Int.natCast_add i 1]at this
     exact this) nb' (bK L[i].en.k K) (iO _ _ h2) (uq hok h3) (by omega)
    refine Eq.trans ?_ G8
    have hdf:decide (L[i].f≠f)=false:=by simp[hfi]
    clear ih G8 hL h3 h2 hok Ls vi hfi
    generalize L[i]=x at*
    simp (disch:=omega) only[ay,hlen,gi,enc,hdf,hp]
   ·rw[if_neg hfi,List.nil_append]
    have b9:=ih (i+1,nb,K) ⟨hlt,h2,h3,by dsimp only;omega⟩ (Nat.sub_lt_sub_left hlt (Nat.lt_succ_self i))
    dsimp only at b9
    rw[G9,xE,if_neg hfi,List.append_nil]at b9
    clear ih vi h3 hL h2
    generalize L[i]=x at*
    simp (disch:=omega) only[ay,hlen,gi,enc,hfi,ne_eq,not_false_eq_true,Int.natCast_add,Int.natCast_one]at b9⊢
    exact b9
  ·have:i=L.length:=by omega
   subst this
   rw[List.drop_length,List.take_length]
   have e0:mB f []=[]:=rfl
   rw[e0]
   have e1: ¬((L.length:Nat):Int)<((L.length:Nat):Int):=by omega
   have hn:=zj k hk L hL (by omega) K h2 h3 (by omega) nb ((L.length:Nat):Int)
   unfold fB
   clear ih hL h3 h2
   simp (disch:=omega) only[ay,hlen,e1]
   exact hn
end Go.Proofs.Ytkfnkiejikhglaa.Own
namespace Go.Proofs.Ytkfnkiejikhglaa.Own
open Go Go.Proofs.Ytkfnkiejikhglaa.GD Go.Proofs.Ytkfnkiejikhglaa.GD.Trie Go.Sort
attribute [local irreducible] aF
def Iu (c:Int×Int) (b:Bool):Int:=if b=true then c.2 else c.1
def PB (K:List Bs) (key:Bs) (b:Bool) (j:Nat):Prop:=pre key (K.getD j [])=true∧Trie.aM (K.getD j []) key.length=b
theorem xH (K:List Bs) (i:Nat) (key:Bs) (b:Bool):∀ (k:Nat) (c:Int×Int),(Iu (vL K i key k c) b=Iu c b∧∀ j,i<j→j≤k→ ¬PB K key b j)∨∃ j,i<j∧j≤k∧PB K key b j∧Iu (vL K i key k c) b=(j:Int)∧∀ j',i<j'→j'<j→ ¬PB K key b j'
 |0,c=> .inl ⟨rfl,fun j h1 h2=>by omega⟩
 |k+1,c=>by
  unfold vL
  by_cases KB:i<k+1
  ·rw[if_pos KB]
   rcases xH K i key b k (if pre key (K.getD (k+1) [])=true then (if Trie.aM (K.getD (k+1) []) key.length=true then (c.1,((k+1:Nat):Int))else (((k+1:Nat):Int),c.2))else c)with⟨h1,h2⟩ |⟨j,h1,h2,h3,h4,h5⟩
   ·by_cases hp:PB K key b (k+1)
    ·refine .inr ⟨k+1,KB,Nat.le_refl _,hp, ?_,fun j' a1 a2=>h2 j' a1 (by omega)⟩
     rw[h1,if_pos hp.1]
     obtain⟨_,hb⟩:=hp
     cases b
     ·rw[if_neg (by rw[hb];simp)];rfl
     ·rw[if_pos hb];rfl
    ·refine .inl ⟨?_,fun j a1 a2=> ?_⟩
     ·rw[h1]
      by_cases mA:pre key (K.getD (k+1) [])=true
      ·rw[if_pos mA]
       have hb:Trie.aM (K.getD (k+1) []) key.length≠b:=fun h=>hp ⟨mA,h⟩
       cases b
       ·rw[if_pos (by simpa using hb)];rfl
       ·rw[if_neg (by simpa using hb)];rfl
      ·rw[if_neg mA]
     ·by_cases hj:j=k+1
      ·rw[hj];exact hp
      ·exact h2 j a1 (by omega)
   ·exact .inr ⟨j,h1,by omega,h3,h4,h5⟩
  ·rw[if_neg KB]
   exact .inl ⟨rfl,fun j a1 a2=>by omega⟩
open Classical in
theorem Ao {key:Bs} {f:Int} {v:List Int}:∀ {L:List Er} {acc:List Int},(∀ x,x∈L→x.f=f→x.en.k=key→x.vs=v)→DK key f L acc=if (∃ x,x∈L∧x.f=f∧x.en.k=key)then v else acc:=by
 intro L
 induction L with
 |nil=>intro acc _;rw[if_neg (by rintro⟨x,h,_⟩;cases h)];rfl
 |cons x L ih=>
  intro acc h
  show DK key f L (if x.f=f∧x.en.k=key then x.vs else acc)=_
  rw[ih fun y hy=>h y (List.mem_cons_of_mem _ hy)]
  by_cases hx:x.f=f∧x.en.k=key
  ·have he:∃ y,y∈x::L∧y.f=f∧y.en.k=key:=⟨x,List.mem_cons_self ..,hx⟩
   rw[if_pos hx,h x (List.mem_cons_self ..) hx.1 hx.2,if_pos he]
   split<;>rfl
  ·rw[if_neg hx]
   by_cases he:∃ y,y∈L∧y.f=f∧y.en.k=key
   ·have DD:∃ y,y∈x::L∧y.f=f∧y.en.k=key:=by
     obtain⟨y,hy,h2⟩:=he
     exact⟨y,List.mem_cons_of_mem _ hy,h2⟩
    rw[if_pos he,if_pos DD]
   ·have DD: ¬∃ y,y∈x::L∧y.f=f∧y.en.k=key:=by
     rintro⟨y,hy,h2⟩
     rcases List.mem_cons.1 hy with rfl |hy
     ·exact hx h2
     ·exact he ⟨y,hy,h2⟩
    rw[if_neg he,if_neg DD]
open Classical in
theorem xI {f:Int} {L:List Er} (hL:∀ x,x∈L→x.vd) (hd:L.Pairwise fun a b=>a.px≠b.px):((List.range (fB (mB f L) [] []).length).map (qs f L (fB (mB f L) [] []))).map Nr.core=(b8 f L).map Nr.core:=by
 have fo:=mq (f:=f) hL hd
 have hperm:=dV L
 have ju:∀ e,e∈cj f L↔∃ x,x∈L∧x.f=f∧x.en=e:=fun e=>by
  unfold cj
  rw[List.mem_map]
  constructor
  ·rintro⟨x,hx,rfl⟩
   rw[List.mem_filter,decide_eq_true_eq]at hx
   exact⟨x,hperm.mem_iff.1 hx.1,hx.2,rfl⟩
  ·rintro⟨x,hx,hf,rfl⟩
   exact⟨x,List.mem_filter.2 ⟨hperm.mem_iff.2 hx,decide_eq_true hf⟩,rfl⟩
 have CO:fB (mB f L) [] []=(jB (cj f L)).map Nd.k:=Bt fo.1 fun k=>by
  unfold mB
  rw[List.mem_map]
  constructor
  ·rintro⟨x,hx,rfl⟩
   rw[List.mem_filter,decide_eq_true_eq]at hx
   exact⟨x.en,(ju _).2 ⟨x,hx.1,hx.2,rfl⟩,rfl⟩
  ·rintro⟨e,he,rfl⟩
   obtain⟨x,hx,hf,rfl⟩:=(ju e).1 he
   exact⟨x,List.mem_filter.2 ⟨hx,decide_eq_true hf⟩,rfl⟩
 rw[CO]
 have Iv:=(mj (cj f L).length 0 _ fo.1 (Nat.le_refl _)).1
 have Lt:=vg (cj f L).length 0 (cj f L) fo.1 (Nat.le_refl _)
 unfold b8
 change ∀ i,C9 (cj f L) (jB (cj f L)) 0 i at Lt
 change (jB (cj f L)).Pairwise _ at Iv
 generalize hG:jB (cj f L)=G at*
 apply List.ext_getElem?
 intro i
 rw[List.getElem?_map,List.getElem?_map,List.getElem?_map,List.getElem?_map]
 by_cases hi:i<G.length
 ·have hg:G[i]? =some G[i]:=zq4 hi
  have hr:(List.range (G.map Nd.k).length)[i]? =some i:=by rw[List.getElem?_range (by simpa using hi)]
  rw[hr,hg]
  simp only[Option.map_some,zq5]
  have hkd:∀ j (hj:j<G.length),(G.map Nd.k).getD j []=G[j].k:=fun j hj=>by simp[zq1,hj]
  obtain⟨n1,n2⟩:=Lt i G[i] hg
  have hvs:DK G[i].k f L []=G[i].v:=by
   have F7:∀ x y,x∈L→y∈L→x.f=f→y.f=f→x.en.k=y.en.k→x.vs=y.vs:=fun x y hx hy fx fy hk=>by
    have AR:=Dr (hL x hx) (hL y hy) (by rw[fx,fy]) hk
    by_cases HI:x=y
    ·rw[HI]
    ·obtain⟨a,ha,rfl⟩:=List.getElem_of_mem hx
     obtain⟨b,hb,rfl⟩:=List.getElem_of_mem hy
     rcases Nat.lt_trichotomy a b with h |h |h
     ·exact absurd AR ((List.pairwise_iff_getElem.1 hd) a b ha hb h)
     ·subst h;rfl
     ·exact absurd AR.symm ((List.pairwise_iff_getElem.1 hd) b a hb ha h)
   rcases n1 with⟨e,he,hk,hv⟩ |⟨hv,hno⟩
   ·obtain⟨x,hx,hf,rfl⟩:=(ju e).1 he
    rw[Ao (v:=x.vs) fun y hy fy Iw=>F7 y x hy hx fy hf (by rw[Iw,←hk]),if_pos ⟨x,hx,hf,hk⟩,hv]
    rfl
   ·rw[Ao (v:=[]) fun y hy fy Iw=>absurd Iw (hno y.en ((ju _).2 ⟨y,hy,fy,rfl⟩)),if_neg,hv]
    rintro⟨y,hy,fy,Iw⟩
    exact hno y.en ((ju _).2 ⟨y,hy,fy,rfl⟩) Iw
  have hch:∀ b,Iu (vL (G.map Nd.k) i G[i].k ((G.map Nd.k).length - 1) (-1, -1)) b=Trie.child G[i] b:=fun b=>by
   have KC:∀ j (hj:j<G.length),i<j→(PB (G.map Nd.k) G[i].k b j↔G[i].k++[b]<+:G[j].k):=fun j hj hij=>by
    unfold PB
    rw[hkd j hj]
    constructor
    ·rintro⟨h1,h2⟩
     obtain⟨s,hs⟩:=dH.1 h1
     have hlt:=(List.pairwise_iff_getElem.1 Iv) i j hi hj hij
     cases s with
     |nil=>rw[List.append_nil]at hs;rw[hs,dS]at hlt;cases hlt
     |cons c s=>
      rw[←hs,ir]at h2
      rw[←hs,h2]
      exact⟨s,by simp⟩
    ·intro h
     exact⟨dH.2 ((List.prefix_append ..).trans h),qB h⟩
   have hl:(G.map Nd.k).length=G.length:=by simp
   rcases xH (G.map Nd.k) i G[i].k b ((G.map Nd.k).length - 1) (-1, -1)with⟨h1,h2⟩ |⟨j,h1,h2,h3,h4,h5⟩
   ·rw[h1]
    rcases n2 b with⟨c1,_⟩ |⟨j,y,c1,c2,c3,c4,_⟩
    ·rw[c1];cases b<;>rfl
    ·have hj:=(zq6.1 c3).1
     have hy:=(zq6.1 c3).2
     exact absurd ((KC j hj c2).2 (by rw[hy];exact c4)) (h2 j c2 (by omega))
   ·have hj:j<G.length:=by omega
    have D5:=(KC j hj h1).1 h3
    rw[h4]
    rcases n2 b with⟨_,c2⟩ |⟨q,y,c1,c2,c3,c4,c5⟩
    ·exact absurd D5 (c2 _ (List.getElem_mem hj))
    ·have hq:=(zq6.1 c3).1
     have hy:=(zq6.1 c3).2
     rw[c1]
     have:j=q:=by
      rcases Nat.lt_trichotomy j q with h |h |h
      ·exact absurd D5 (c5 j G[j] h (zq4 hj))
      ·exact h
      ·exact absurd ((KC q hq c2).2 (by rw[hy];exact c4)) (h5 q c2 h)
     rw[this];simp
  have h0:=hch false
  have h1:=hch true
  simp only[Iu,Trie.child,Bool.false_eq_true,if_false,if_true]at h0 h1
  unfold qs Nr.core pq
  rw[hkd i hi,hvs,h0,h1]
 ·have e1:G[i]? =none:=List.getElem?_eq_none (by omega)
  have e2:(List.range (G.map Nd.k).length)[i]? =none:=List.getElem?_eq_none (by simp;omega)
  rw[e1,e2]
  rfl
theorem EW (nb:Bool) (L:List Er) (hL:∀ x,x∈L→x.vd) (hd:L.Pairwise fun a b=>a.px≠b.px) (FB:L.length≤200):∃ (n4 n6:Bool) (R4 R6:List Nr),Cl ty tab 41 [.sl 49 nb (L.map aB)]=some [.agg [.sl 69 n4 (R4.map bL),.sl 69 n6 (R6.map bL)]]∧R4.map Nr.core=(b8 4 L).map Nr.core∧R6.map Nr.core=(b8 6 L).map Nr.core:=by
 have h4:=An (f:=4) nb L hL FB
 have h6:=An (f:=6) nb L hL FB
 refine⟨(fB (mB 4 L) [] []).isEmpty,(fB (mB 6 L) [] []).isEmpty,_,_,lJ 0 _ _ ?_,xI hL hd,xI hL hd⟩
 unfold iK
 simp (disch:=omega) only[ay,h4,h6]
theorem sH (n1 n2:Bool) (A B:List Nr) (hA:∀ x,x∈A→x.de∧x.vs.length≤5000) (hB:∀ x,x∈B→x.de∧x.vs.length≤5000) (lA:A.length≤60∨(4000<A.length∧A.length≤5000)) (lB:B.length≤60∨(4000<B.length∧B.length≤5000)):
  Cl ty tab 19 [.agg [.sl 69 n1 (A.map bL),.sl 69 n2 (B.map bL)]]=some [.int .i64 (eM A B)]:=by
 refine kU 0 _ _ _ _ ?_
 unfold g_ eM
 have h1:(A.map bL).length=A.length:=by simp
 have h2:(B.map bL).length=B.length:=by simp
 by_cases l1:4000<A.length
 ·have:(4000:Int)<((A.length:Nat):Int):=by omega
  rw[if_pos (.inl l1)]
  simp (disch:=omega) only[ay,h1,this]
 by_cases l2:4000<B.length
 ·have e1: ¬(4000:Int)<((A.length:Nat):Int):=by omega
  have e2:(4000:Int)<((B.length:Nat):Int):=by omega
  rw[if_pos (.inr l2)]
  simp (disch:=omega) only[ay,h1,h2,e1,e2]
 rw[if_neg (by omega)]
 have e1: ¬(4000:Int)<((A.length:Nat):Int):=by omega
 have e2: ¬(4000:Int)<((B.length:Nat):Int):=by omega
 have hh:=xB n1 n2 A B hA hB (by omega) (by omega)
 have qU:=pt (L:=A++B) (fun x hx=>(List.mem_append.1 hx).elim (fun h=>(hA x h).1) fun h=>(hB x h).1)
 have Kq:=cT (A++B)
 rw[List.length_append]at Kq
 have hc:=xA (aw (A++B)).isEmpty (aw (A++B)) qU (by omega)
 by_cases hz:ey [] (aw (A++B))=0
 ·obtain⟨v1,v2⟩:=Dv qU hz
  obtain⟨n4,n6,R4,R6,hm,c4,c6⟩:=EW (aw (A++B)).isEmpty (aw (A++B)) v1 v2 (by omega)
  have q1:=un n1 n4 A R4 (by omega) (fun x hx=>by have:=(hA x hx).2;omega)
  have q2:=un n2 n6 B R6 (by omega) (fun x hx=>by have:=(hB x hx).2;omega)
  rw[c4]at q1
  rw[c6]at q2
  have hs:Cl ty tab 16 [.agg [.sl 69 n1 (A.map bL),.sl 69 n2 (B.map bL)],.agg [.sl 69 n4 (R4.map bL),.sl 69 n6 (R6.map bL)]]=some [.bool (decide (A.map Nr.core=(b8 4 (aw (A++B))).map Nr.core)&&decide (B.map Nr.core=(b8 6 (aw (A++B))).map Nr.core))]:=by
   refine lF 0 _ _ _ _ _ _ _ _ ?_
   unfold iJ
   cases BL:decide (A.map Nr.core=(b8 4 (aw (A++B))).map Nr.core)
   ·rw[BL]at q1
    simp (disch:=omega) only[ay,q1]
   ·rw[BL]at q1
    simp (disch:=omega) only[ay,q1,q2]
  rw[hz]at hc
  by_cases c1:A.map Nr.core=(b8 4 (aw (A++B))).map Nr.core
  ·by_cases c2:B.map Nr.core=(b8 6 (aw (A++B))).map Nr.core
   ·rw[decide_eq_true c1,decide_eq_true c2]at hs
    rw[if_pos ⟨by omega,by omega,hz,c1,c2⟩]
    simp (disch:=omega) only[ay,h1,h2,e1,e2,hh,hc,hm,hs,ne_eq,not_true_eq_false]
   ·rw[decide_eq_false c2,Bool.and_false]at hs
    rw[if_neg fun h=>c2 h.gb]
    simp (disch:=omega) only[ay,h1,h2,e1,e2,hh,hc,hm,hs,ne_eq,not_true_eq_false]
  ·rw[decide_eq_false c1,Bool.false_and]at hs
   rw[if_neg fun h=>c1 h.ga]
   simp (disch:=omega) only[ay,h1,h2,e1,e2,hh,hc,hm,hs,ne_eq,not_true_eq_false]
 ·rw[if_neg fun h=>hz h.c]
  simp (disch:=omega) only[ay,h1,h2,e1,e2,hh,hc,hz,ne_eq,not_false_eq_true]
end Go.Proofs.Ytkfnkiejikhglaa.Own
namespace Go.Proofs.Ytkfnkiejikhglaa.Own
open Go Go.Proofs.Ytkfnkiejikhglaa.GD Go.Proofs.Ytkfnkiejikhglaa.GD.Trie Go.Sort
attribute [local irreducible] aF
abbrev TD (n1 n2:Bool) (A B:List Nr):D:= .agg [.sl 69 n1 (A.map bL),.sl 69 n2 (B.map bL)]
structure GT (A B:List Nr):Prop where
 a:∀ x,x∈A→x.de∧x.vs.length≤5000
 b:∀ x,x∈B→x.de∧x.vs.length≤5000
 la:A.length≤60∨(4000<A.length∧A.length≤5000)
 lb:B.length≤60∨(4000<B.length∧B.length≤5000)
theorem sI {x:Er} (hx:x.vd) {p:Pf} (hp:p.ok):Cl ty tab 54 [.agg [.int .u8 x.f,.int .u64 (x.h:Int),.int .u64 (x.l:Int),.int .i64 x.n],.agg [.int .u8 p.f,.int .u64 (p.h:Int),.int .u64 (p.l:Int),.int .i64 (p.n:Int)]]=some [.bool (jS p x)]∧
  Cl ty tab 54 [.agg [.int .u8 p.f,.int .u64 (p.h:Int),.int .u64 (p.l:Int),.int .i64 (p.n:Int)],.agg [.int .u8 x.f,.int .u64 (x.h:Int),.int .u64 (x.l:Int),.int .i64 x.n]]=some [.bool (fY p x)]:=by
 have h1:=nu hx.ok hp
 have h2:=nu hp hx.ok
 have e:x.pf.d= .agg [.int .u8 x.f,.int .u64 (x.h:Int),.int .u64 (x.l:Int),.int .i64 x.n]:=by
  show P4 x.f x.h x.l (x.pf.n:Nat)=_
  rw[←hx.n0]
 rw[e]at h1 h2
 refine⟨h1, ?_⟩
 rw[h2]
 unfold fY
 have:decide (p.f=x.pf.f)=decide (x.f=p.f):=decide_eq_decide.2 ⟨Eq.symm,Eq.symm⟩
 rw[this]
 rfl
theorem nx (n1 n2:Bool) (A B:List Nr) (h:GT A B) (p:Px) (hp:dR p.h p.l):Cl ty tab 53 [TD n1 n2 A B,p.d]=
  some (if eM A B≠0 then [.ov 49 true [],.int .i64 (eM A B)]else if cy p.f p.h p.l p.n≠0 then [.ov 49 true [],.int .i64 (cy p.f p.h p.l p.n)]else [.ov 49 (aw (A++B)).isEmpty ((aw (A++B)).map aB),.int .i64 0]):=by
 refine km 0 _ _ _ _ _ _ _ _ ?_
 unfold gG
 have hc:=sH n1 n2 A B h.a h.b h.la h.lb
 have hq:=d9 p.f p.h p.l p.n hp
 have hh:=xB n1 n2 A B h.a h.b (by rcases h.la with h |h<;>omega) (by rcases h.lb with h |h<;>omega)
 by_cases c1:eM A B=0
 ·rw[if_neg (by simp[c1])]
  rw[c1]at hc
  by_cases c2:cy p.f p.h p.l p.n=0
  ·rw[if_neg (by simp[c2])]
   rw[c2]at hq
   simp (disch:=omega) only[ay,hc,hq,hh,ne_eq,not_true_eq_false]
  ·rw[if_pos c2]
   simp (disch:=omega) only[ay,hc,hq,c2,ne_eq,not_false_eq_true]
 ·rw[if_pos c1]
  simp (disch:=omega) only[ay,hc,c1,ne_eq,not_false_eq_true]
theorem qd {α:Type} (q:α→Bool) (l:List α) {i:Nat} (hi:i<l.length):(l.take (i+1)).filter q=(l.take i).filter q++(if q l[i]=true then [l[i]]else []):=by
 rw[List.take_add_one,zq4 hi,List.filter_append]
 congr 1
 simp only[Option.toList_some,List.filter_cons,List.filter_nil]
theorem lV (n1 n2:Bool) (A B:List Nr) (h:GT A B) (hf:vH A B) (p:Pf) (hp:p.ok):Cl ty tab 21 [TD n1 n2 A B,p.d]=some [.ov 49 ((aw (A++B)).filter (jS p)).isEmpty (((aw (A++B)).filter (jS p)).map aB),.int .i64 0]:=by
 obtain⟨k,hk⟩:=bY
 refine eG k _ _ _ _ _ _ _ _ ?_
 unfold aV
 have ho:=nx n1 n2 A B h ⟨p.f,p.h,p.l,p.n⟩ hp.r
 rw[if_neg (by simp[eZ.2 hf])]at ho
 dsimp only at ho
 rw[if_neg (by simp[hp.c])]at ho
 obtain⟨v1,v2,v3,v4⟩:=hf.BE (fun x hx=>(h.a x hx).1) (fun x hx=>(h.b x hx).1)
 have hl:=cT (A++B)
 have la:=hf.a;have lb:=hf.b
 rw[List.length_append]at hl
 generalize aw (A++B)=H at*
 have hlen:(H.map aB).length=H.length:=by simp
 have:=bP (F:=aV.b0 (Cl ty tab) k [.ov 49 H.isEmpty (H.map aB),.int .i64 0]) H.length (fun i=>[.ov 49 ((H.take i).filter (jS p)).isEmpty (((H.take i).filter (jS p)).map aB),.int .i64 i,.pv [.int .u8 p.f,.int .u64 (p.h:Int),.int .u64 (p.l:Int),.int .i64 (p.n:Int)],.ov 49 H.isEmpty (H.map aB)])
  (fun _=>some [.ov 49 (H.filter (jS p)).isEmpty ((H.filter (jS p)).map aB),.int .i64 0]) (fun i hi again ha=> ?_) (fun again=> ?_) k (by omega) 0 (by omega)
 ·simp (disch:=omega) only[ay,ho,ne_eq,not_true_eq_false]
  exact this
 ·unfold aV.b0
  have g:(H.map aB).getD i .undef=aB H[i]:=aP hi
  have hc:=(sI (v1 _ (List.getElem_mem hi)) hp).1
  rw[qd _ _ hi]at ha
  have E6:=List.length_filter_le (jS p) (H.take i)
  rw[List.length_take]at E6
  generalize H[i]=x at*
  generalize (H.take i).filter (jS p)=F at*
  have e3:(F.length+1)*56≤140737488355328:=by omega
  have hF:(F.map aB).length=F.length:=by simp
  clear v1 v2 v3 v4 ho
  cases sG:jS p x
  ·rw[sG]at hc ha
   simp only[Bool.false_eq_true,if_false,List.append_nil]at ha
   simp (disch:=omega) only[ay,hlen,g,enc,hc,e3,hF,Int.natCast_add,Int.natCast_one]at ha⊢
   exact ha
  ·rw[sG]at hc ha
   simp only[if_true]at ha
   have e2:(F++[x]).isEmpty=false:=by simp
   rw[e2,List.map_append,List.map_cons,List.map_nil]at ha
   simp (disch:=omega) only[ay,hlen,g,enc,hc,e3,hF,Int.natCast_add,Int.natCast_one]at ha⊢
   exact ha
 ·unfold aV.b0
  rw[List.take_length]
  have e1: ¬((H.length:Nat):Int)<((H.length:Nat):Int):=by omega
  simp (disch:=omega) only[ay,hlen,e1]
theorem sY (n1 n2:Bool) (A B:List Nr) (h:GT A B) (hf:vH A B) (p:Pf) (hp:p.ok):Cl ty tab 23 [TD n1 n2 A B,p.d]=some [.ov 49 ((aw (A++B)).filter (fY p)).isEmpty (((aw (A++B)).filter (fY p)).map aB),.int .i64 0]:=by
 obtain⟨k,hk⟩:=bY
 refine eW k _ _ _ _ _ _ _ _ ?_
 unfold aZ
 have ho:=nx n1 n2 A B h ⟨p.f,p.h,p.l,p.n⟩ hp.r
 rw[if_neg (by simp[eZ.2 hf])]at ho
 dsimp only at ho
 rw[if_neg (by simp[hp.c])]at ho
 obtain⟨v1,v2,v3,v4⟩:=hf.BE (fun x hx=>(h.a x hx).1) (fun x hx=>(h.b x hx).1)
 have hl:=cT (A++B)
 have la:=hf.a;have lb:=hf.b
 rw[List.length_append]at hl
 generalize aw (A++B)=H at*
 have hlen:(H.map aB).length=H.length:=by simp
 have:=bP (F:=aZ.b0 (Cl ty tab) k [.ov 49 H.isEmpty (H.map aB),.int .i64 0]) H.length (fun i=>[.ov 49 ((H.take i).filter (fY p)).isEmpty (((H.take i).filter (fY p)).map aB),.int .i64 i,.pv [.int .u8 p.f,.int .u64 (p.h:Int),.int .u64 (p.l:Int),.int .i64 (p.n:Int)],.ov 49 H.isEmpty (H.map aB)])
  (fun _=>some [.ov 49 (H.filter (fY p)).isEmpty ((H.filter (fY p)).map aB),.int .i64 0]) (fun i hi again ha=> ?_) (fun again=> ?_) k (by omega) 0 (by omega)
 ·simp (disch:=omega) only[ay,ho,ne_eq,not_true_eq_false]
  exact this
 ·unfold aZ.b0
  have g:(H.map aB).getD i .undef=aB H[i]:=aP hi
  have hc:=(sI (v1 _ (List.getElem_mem hi)) hp).2
  rw[qd _ _ hi]at ha
  have E6:=List.length_filter_le (fY p) (H.take i)
  rw[List.length_take]at E6
  generalize H[i]=x at*
  generalize (H.take i).filter (fY p)=F at*
  have e3:(F.length+1)*56≤140737488355328:=by omega
  have hF:(F.map aB).length=F.length:=by simp
  clear v1 v2 v3 v4 ho
  cases sG:fY p x
  ·rw[sG]at hc ha
   simp only[Bool.false_eq_true,if_false,List.append_nil]at ha
   simp (disch:=omega) only[ay,hlen,g,enc,hc,e3,hF,Int.natCast_add,Int.natCast_one]at ha⊢
   exact ha
  ·rw[sG]at hc ha
   simp only[if_true]at ha
   have e2:(F++[x]).isEmpty=false:=by simp
   rw[e2,List.map_append,List.map_cons,List.map_nil]at ha
   simp (disch:=omega) only[ay,hlen,g,enc,hc,e3,hF,Int.natCast_add,Int.natCast_one]at ha⊢
   exact ha
 ·unfold aZ.b0
  rw[List.take_length]
  have e1: ¬((H.length:Nat):Int)<((H.length:Nat):Int):=by omega
  simp (disch:=omega) only[ay,hlen,e1]
theorem Ix {p:Px} (hp:dR p.h p.l) (h:cy p.f p.h p.l p.n=0):∃ q:Pf,q.ok∧q.d=p.d:=by
 have:p.n=((p.n.toNat:Nat):Int):=by
  unfold cy at h
  split at h
  ·cases h
  ·split at h
   ·omega
   ·cases h
 refine⟨⟨p.f,p.h,p.l,p.n.toNat⟩,⟨hp, ?_⟩, ?_⟩
 ·show cy p.f p.h p.l (p.n.toNat:Nat)=0
  rw[←this];exact h
 ·show P4 p.f p.h p.l (p.n.toNat:Nat)=_
  rw[←this]
def GI (n1 n2:Bool) (A B:List Nr) (p:Px):Prop:=∃ (X Y:List Er) (e:Int),(∀ x,x∈X∨x∈Y→x.vs.length≤5000)∧X.length≤10000∧Y.length≤10000∧(∃ nb,Cl ty tab 20 [TD n1 n2 A B,p.d]=some [.ov 49 nb (X.map aB),.int .i64 e])∧(∃ nb,Cl ty tab 21 [TD n1 n2 A B,p.d]=some [.ov 49 nb (X.map aB),.int .i64 e])∧
  (∃ nb,Cl ty tab 22 [TD n1 n2 A B,p.d]=some [.ov 49 nb (Y.map aB),.int .i64 e])∧(∃ nb,Cl ty tab 23 [TD n1 n2 A B,p.d]=some [.ov 49 nb (Y.map aB),.int .i64 e])
theorem zk (n1 n2:Bool) (A B:List Nr) (h:GT A B) (p:Px) (hp:dR p.h p.l):GI n1 n2 A B p:=by
 have lA:A.length≤5000:=by rcases h.la with h |h<;>omega
 have lB:B.length≤5000:=by rcases h.lb with h |h<;>omega
 have ho:=open_ok n1 n2 A B h.a h.b lA lB p hp
 have hr:=nx n1 n2 A B h p hp
 have bad:∀ e:Int,e≠0→Cl ty tab 49 [TD n1 n2 A B,p.d]=some [.int .i64 e]→Cl ty tab 53 [TD n1 n2 A B,p.d]=some [.ov 49 true [],.int .i64 e]→GI n1 n2 A B p:=fun e he h1 h2=>by
  refine⟨[],[],e,fun x hx=>(by rcases hx with h |h<;>cases h),by simp,by simp,⟨true,kL 0 _ _ _ _ _ _ _ _ ?_⟩,⟨true,eG 0 _ _ _ _ _ _ _ _ ?_⟩,⟨true,lL 0 _ _ _ _ _ _ _ _ ?_⟩,⟨true,eW 0 _ _ _ _ _ _ _ _ ?_⟩⟩
  ·unfold jA;simp (disch:=omega) only[ay,h1,he,ne_eq,not_false_eq_true,List.map_nil]
  ·unfold aV;simp (disch:=omega) only[ay,h2,he,ne_eq,not_false_eq_true,List.map_nil]
  ·unfold cw;simp (disch:=omega) only[ay,h1,he,ne_eq,not_false_eq_true,List.map_nil]
  ·unfold aZ;simp (disch:=omega) only[ay,h2,he,ne_eq,not_false_eq_true,List.map_nil]
 by_cases c1:eM A B=0
 ·by_cases c2:cy p.f p.h p.l p.n=0
  ·obtain⟨q,hq,hd⟩:=Ix hp c2
   have hf:=eZ.1 c1
   unfold GI
   rw[←hd]
   obtain⟨v1,v2,v3,v4⟩:=hf.BE (fun x hx=>(h.a x hx).1) (fun x hx=>(h.b x hx).1)
   have hl:=cT (A++B)
   rw[List.length_append]at hl
   have l1:=List.length_filter_le (jS q) (aw (A++B))
   have l2:=List.length_filter_le (fY q) (aw (A++B))
   exact⟨_,_,0,fun x hx=>by rcases hx with hx |hx<;>exact (v1 x (List.mem_filter.1 hx).1).vs.2,by omega,by omega,⟨_,mY n1 n2 A B hf h.a h.b q hq⟩,⟨_,lV n1 n2 A B h hf q hq⟩,⟨_,vI n1 n2 A B hf h.a h.b q hq⟩,⟨_,sY n1 n2 A B h hf q hq⟩⟩
  ·rw[if_pos c1]at ho
   rw[if_neg (by simp[c1]),if_pos c2]at hr
   exact bad _ c2 ho hr
 ·rw[if_neg c1]at ho
  rw[if_pos c1]at hr
  exact bad _ c1 ho hr
abbrev I8:D:= .agg [.int .u8 0,.int .u64 0,.int .u64 0,.int .i64 0,.sl 3 true []]
theorem zm (X:List Er):X=[]∨∃ Y z,X=Y++[z]:=by
 rcases List.eq_nil_or_concat X with h |⟨Y,z,h⟩
 ·exact .inl h
 ·exact .inr ⟨Y,z,by rw[h,List.concat_eq_append]⟩
theorem BJ (Y:List Er) (z:Er):((Y++[z]).map aB).getD Y.length .undef=aB z:=by simp[zq1]
theorem vJ (n1 n2:Bool) (A B:List Nr) (h:GT A B) (f:Int) (ah al:Nat) (ha:dR ah al):∃ (x:D) (e:Int),Cl ty tab 24 [TD n1 n2 A B,.int .u8 f,tV ah al]=some [x,.int .i64 e]∧Cl ty tab 25 [TD n1 n2 A B,.int .u8 f,tV ah al]=some [x,.int .i64 e]∧∃ z:Er,x=aB z∧z.vs.length≤5000:=by
 have lA:A.length≤5000:=by rcases h.la with h |h<;>omega
 have lB:B.length≤5000:=by rcases h.lb with h |h<;>omega
 have hc:=ui n1 n2 A B h.a h.b lA lB
 have hr:=sH n1 n2 A B h.a h.b h.la h.lb
 have KD:I8=aB ⟨0,0,0,0,true,[]⟩:=rfl
 by_cases c1:eM A B=0
 ·rw[c1]at hc hr
  cases EX:bZ f ah al
  ·refine⟨I8,2,fw 0 _ _ _ _ _ _ _ ?_,ce 0 _ _ _ _ _ _ _ ?_,⟨0,0,0,0,true,[]⟩,KD,by simp⟩
   ·unfold fv
    have hx:=f7 f ah al
    rw[EX]at hx
    by_cases h4:f=4
    ·simp (disch:=omega) only[ay,hc,h4,ne_eq,not_true_eq_false]
     rw[h4]at hx
     simp (disch:=omega) only[ay,hx]
    ·by_cases h6:f=6
     ·simp (disch:=omega) only[ay,hc,h4,h6,ne_eq,not_true_eq_false,Int.reduceEq,not_false_eq_true]
      rw[h6]at hx
      simp (disch:=omega) only[ay,hx]
     ·simp (disch:=omega) only[ay,hc,h4,h6,ne_eq,not_true_eq_false,not_false_eq_true]
   ·unfold b5
    have hx:=gJ f ah al
    rw[EX]at hx
    simp (disch:=omega) only[ay,hr,hx]
  ·have hf:f=4∨f=6:=by
    unfold bZ at EX
    split at EX
    ·right;assumption
    ·left;simp only[decide_eq_true_eq]at EX;exact EX.1
   have Lu:ac f≠0:=by rcases hf with rfl |rfl<;>decide
   have hx:=f7 f ah al
   have tB:=gJ f ah al
   rw[EX]at hx tB
   have fa:=Aj (p:=⟨f,ah,al,0⟩) ha Lu EX (m:=ac f) (Nat.le_refl _)
   have xM:(Pf.cut ⟨f,ah,al,0⟩ (ac f))=⟨f,ah,al,ac f⟩:=by
    unfold Pf.cut
    rw[Nat.sub_self]
    have:gH f ah al 0=(ah,al):=by simp[gH,yR,Nat.mod_one]
    dsimp only
    rw[this]
   have hq:=sm (p:=⟨f,ah,al,0⟩) ha Lu EX (m:=ac f) (Nat.le_refl _)
   rw[xM]at fa hq
   have xr:=eZ.1 c1
   have k1:=mY n1 n2 A B xr h.a h.b _ hq
   have k2:=lV n1 n2 A B h xr _ hq
   obtain⟨v1,v2,v3,v4⟩:=xr.BE (fun x hx=>(h.a x hx).1) (fun x hx=>(h.b x hx).1)
   have hvs:∀ x,x∈(aw (A++B)).filter (jS ⟨f,ah,al,ac f⟩)→x.vs.length≤5000:=fun x hx=>(v1 x (List.mem_filter.1 hx).1).vs.2
   have MZ:=List.length_filter_le (jS ⟨f,ah,al,ac f⟩) (aw (A++B))
   have hl:=cT (A++B)
   rw[List.length_append]at hl
   generalize (aw (A++B)).filter (jS ⟨f,ah,al,ac f⟩)=X at*
   have Lv:=d8 f
   have FC:Cl ty tab 20 [TD n1 n2 A B,.agg [.int .u8 f,.int .u64 (ah:Int),.int .u64 (al:Int),.int .i64 ((ac f:Nat):Int)]]=some [.ov 49 X.isEmpty (X.map aB),.int .i64 0]:=k1
   have Lw:Cl ty tab 21 [TD n1 n2 A B,.agg [.int .u8 f,.int .u64 (ah:Int),.int .u64 (al:Int),.int .i64 ((ac f:Nat):Int)]]=some [.ov 49 X.isEmpty (X.map aB),.int .i64 0]:=k2
   have FD:Cl ty tab 57 [.int .u8 f,.agg [.int .u64 (ah:Int),.int .u64 (al:Int)],.int .i64 ((ac f:Nat):Int)]=some [.agg [.int .u8 f,.int .u64 (ah:Int),.int .u64 (al:Int),.int .i64 ((ac f:Nat):Int)],.int .i64 0]:=fa
   clear k1 k2 fa v1 v2 v3 v4 hq xM xr
   rcases zm X with rfl |⟨Y,z,rfl⟩
   ·refine⟨I8,6,fw 0 _ _ _ _ _ _ _ ?_,ce 0 _ _ _ _ _ _ _ ?_,⟨0,0,0,0,true,[]⟩,KD,by simp⟩
    ·unfold fv
     rcases hf with rfl |rfl
     ·have e:((ac 4:Nat):Int)=32:=rfl
      rw[e]at FC
      simp (disch:=omega) only[ay,hc,hx,FC,ne_eq,not_true_eq_false,Int.reduceEq,not_false_eq_true,List.map_nil,Int.natCast_zero]
     ·have e:((ac 6:Nat):Int)=128:=rfl
      rw[e]at FC
      simp (disch:=omega) only[ay,hc,hx,FC,ne_eq,not_true_eq_false,Int.reduceEq,not_false_eq_true,List.map_nil,Int.natCast_zero]
    ·unfold b5
     simp (disch:=omega) only[ay,hr,tB,Lv,FD,Lw,ne_eq,not_true_eq_false,List.map_nil,Int.natCast_zero]
   ·have hlen:((Y++[z]).map aB).length=Y.length+1:=by simp
    have g:=BJ Y z
    have hne: ¬((Y.length+1:Nat):Int)=0:=by omega
    have e1:((Y.length+1:Nat):Int) - 1=(Y.length:Int):=by omega
    have Nh:Y.length≤20000:=by rw[List.length_append]at MZ;omega
    refine⟨aB z,0,fw 0 _ _ _ _ _ _ _ ?_,ce 0 _ _ _ _ _ _ _ ?_,z,rfl,hvs z (by simp)⟩
    ·unfold fv
     rcases hf with rfl |rfl
     ·have e:((ac 4:Nat):Int)=32:=rfl
      rw[e]at FC
      simp (disch:=omega) only[ay,hc,hx,FC,ne_eq,not_true_eq_false,Int.reduceEq,not_false_eq_true,hlen,hne,e1,g,enc]
     ·have e:((ac 6:Nat):Int)=128:=rfl
      rw[e]at FC
      simp (disch:=omega) only[ay,hc,hx,FC,ne_eq,not_true_eq_false,Int.reduceEq,not_false_eq_true,hlen,hne,e1,g,enc]
    ·unfold b5
     simp (disch:=omega) only[ay,hr,tB,Lv,FD,Lw,ne_eq,not_true_eq_false,hlen,hne,e1,g,enc]
 ·refine⟨I8,eM A B,fw 0 _ _ _ _ _ _ _ ?_,ce 0 _ _ _ _ _ _ _ ?_,⟨0,0,0,0,true,[]⟩,KD,by simp⟩
  ·unfold fv
   simp (disch:=omega) only[ay,hc,c1,ne_eq,not_false_eq_true]
  ·unfold b5
   simp (disch:=omega) only[ay,hr,c1,ne_eq,not_false_eq_true]
end Go.Proofs.Ytkfnkiejikhglaa.Own
namespace Go.Proofs.Ytkfnkiejikhglaa.Own
open Go Go.Proofs.Ytkfnkiejikhglaa.GD Go.Proofs.Ytkfnkiejikhglaa.GD.Trie Go.Sort
theorem Iy {A B:List Nr} (gA:∀ x,x∈A→x.de) (gB:∀ x,x∈B→x.de) (hA:xt A) (hB:xt B):GT A B where
 a:=fun x hx=>⟨gA x hx,by have:=hA.v x hx;omega⟩
 b:=fun x hx=>⟨gB x hx,by have:=hB.v x hx;omega⟩
 la:=by rcases hA.l with h |h<;>omega
 lb:=by rcases hB.l with h |h<;>omega
theorem DC (n1 n2:Bool) (A B:List Nr) (l1:A.length≤9223372036854775807) (l2:B.length≤9223372036854775807) (gA:∀ x,x∈A→x.de) (gB:∀ x,x∈B→x.de) (p:Px) (hp:dR p.h p.l) (f:Int) (ah al:Nat) (ha:dR ah al):
  Cl ty tab 4 [TD n1 n2 A B,p.d,.int .u8 f,tV ah al]=some [.bool true]:=by
 refine iZ 0 _ _ _ _ _ _ _ _ _ _ _ ?_
 unfold eX
 obtain⟨b,hb,M1⟩:=Dw n1 n2 A B l1 l2
 cases b
 case true=>simp (disch:=omega) only[ay,hb]
 obtain⟨hA,hB⟩:=M1 rfl
 have h:=Iy gA gB hA hB
 obtain⟨X,Y,e,hv,lX,lY,⟨b1,c1⟩,⟨b2,c2⟩,⟨b3,c3⟩,⟨b4,c4⟩⟩:=zk n1 n2 A B h p hp
 obtain⟨x,e2,k1,k2,z,rfl,hz⟩:=vJ n1 n2 A B h f ah al ha
 have s1:=iT b1 b2 X X (by omega) (fun x hx=>by have:=hv x (.inl hx);omega)
 have s2:=iT b3 b4 Y Y (by omega) (fun x hx=>by have:=hv x (.inr hx);omega)
 have s3:=iT false false [z] [z] (by simp) (fun x hx=>by simp at hx;subst hx;omega)
 rw[decide_eq_true rfl]at s1 s2 s3
 have vA:Cl ty tab 17 [.sl 49 false [aB z],.sl 49 false [aB z]]=some [.bool true]:=s3
 simp (disch:=omega) only[ay,hb,c1,c2,c3,c4,k1,k2,s1,s2,enc,vA]
theorem sZ:uQ ty tab 4 [⟨true,[.sl 69,.sl 69]⟩,⟨true,[.int .u8,.int .u64,.int .u64,.int .i64]⟩,⟨false,[.int .u8]⟩,⟨true,[.int .u64,.int .u64]⟩]:=by
 refine yL fun dd hf hw=> ?_
 obtain⟨d1,dd,rfl,h1,hf⟩:=kb hf
 obtain⟨d2,dd,rfl,h2,hf⟩:=kb hf
 obtain⟨d3,dd,rfl,h3,hf⟩:=kb hf
 obtain⟨d4,dd,rfl,h4,hf⟩:=kb hf
 obtain rfl:=Bq hf
 obtain⟨n1,n2,A,B,rfl,_,_,a2,b2,a3,b3⟩:=EP h1 (hw _ (by simp))
 obtain⟨p,rfl,hp⟩:=Iq h2 (hw _ (by simp))
 obtain⟨f,rfl⟩:=cI (wQ h3)
 obtain⟨cs,rfl,h4⟩:=nO h4
 obtain⟨c1,cs,rfl,q1,h4⟩:=bG h4
 obtain⟨c2,cs,rfl,q2,h4⟩:=bG h4
 obtain rfl:=md h4
 obtain⟨ah,rfl⟩:=cI q1
 obtain⟨al,rfl⟩:=cI q2
 have hw4:=hw (.agg [.int .u64 ah,.int .u64 al]) (by simp)
 obtain⟨ah,rfl,r1⟩:=pu (hw4.cells _ (by simp:D.int .u64 ah∈_))
 obtain⟨al,rfl,r2⟩:=pu (hw4.cells _ (by simp:D.int .u64 al∈_))
 exact DC n1 n2 A B a2 b2 a3 b3 p hp f ah al ⟨r1,r2⟩
end Go.Proofs.Ytkfnkiejikhglaa.Own
