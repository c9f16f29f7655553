/- A value-level interpreter of the translated code, with the proof that it is sound: part 2. -/
import Derived.Test.YtkfnkiejikhglaaG1
set_option linter.unusedVariables false
set_option linter.unusedSimpArgs false
namespace Go.Proofs.Ytkfnkiejikhglaa.GD
open Go
section
theorem pI (off:Nat):∀ (l:List Value) (i:Nat) (cs:Array Value),off+i+l.length≤cs.size→
  ((l.zipIdx i).foldl (fun (cs:Array Value) (p:Value×Nat)=>cs.setIfInBounds (off+p.2) p.1) cs).size=cs.size∧
  (∀ x,x<off+i∨off+i+l.length≤x→((l.zipIdx i).foldl (fun (cs:Array Value) (p:Value×Nat)=>cs.setIfInBounds (off+p.2) p.1) cs).getD x undef=cs.getD x undef)∧
  ∀ j,j<l.length→((l.zipIdx i).foldl (fun (cs:Array Value) (p:Value×Nat)=>cs.setIfInBounds (off+p.2) p.1) cs).getD (off+i+j) undef=l.getD j undef
 |[],i,cs,h=>⟨rfl,fun _ _=>rfl,fun j hj=>by simp at hj⟩
 |v::l,i,cs,h=>by
  simp only[List.length_cons]at h
  obtain⟨h1,h2,h3⟩:=pI off l (i+1) (cs.setIfInBounds (off+i) v) (by simp;omega)
  simp only[List.zipIdx_cons,List.foldl_cons]
  refine⟨by rw[h1];simp,fun x hx=> ?_,fun j hj=> ?_⟩
  ·simp only[List.length_cons]at hx
   rw[h2 x (by omega)]
   simp[zq2,Array.getElem?_setIfInBounds,show¬off+i=x by omega]
  ·cases j with
   |zero=>
    rw[h2 (off+i+0) (by omega)]
    have:off+i<cs.size:=by omega
    simp[zq2,this]
   |succ j=>
    have:=h3 j (by simpa using hj)
    rw[show off+i+(j+1)=off+(i+1)+j by omega,this]
    simp
theorem tu (off:Nat) (v:Value) (cs:Array Value) (h:off+v.cells.size≤cs.size):
  (v.cells.zipIdx.foldl (fun (cs:Array Value) (p:Value×Nat)=>cs.setIfInBounds (off+p.2) p.1) cs).size=cs.size∧
  (∀ x,x<off∨off+v.cells.size≤x→(v.cells.zipIdx.foldl (fun (cs:Array Value) (p:Value×Nat)=>cs.setIfInBounds (off+p.2) p.1) cs).getD x undef=cs.getD x undef)∧
  ∀ j,j<v.cells.size→(v.cells.zipIdx.foldl (fun (cs:Array Value) (p:Value×Nat)=>cs.setIfInBounds (off+p.2) p.1) cs).getD (off+j) undef=v.cells.getD j undef:=by
 have:=pI off v.cells.toList 0 cs (by simpa using h)
 rw[←Array.foldl_toList,Array.toList_zipIdx]
 simpa[zq2,zq1]using this
theorem ci:∀ (ds cs:List D) (off:Nat),(bD cs off ds).length=cs.length
 |[],_,_=>rfl
 |d::ds,cs,off=>by rw[bD,ci ds];simp
theorem hD:∀ (ds cs:List D) (off:Nat),off+ds.length≤cs.length→∀ x,(bD cs off ds).getD x .undef=if off≤x∧x<off+ds.length then ds.getD (x - off) .undef else cs.getD x .undef
 |[],cs,off,h,x=>by simp[bD];omega
 |d::ds,cs,off,h,x=>by
  simp only[List.length_cons]at h
  rw[bD,hD ds (cs.set off d) (off+1) (by simp;omega)]
  simp only[List.length_cons]
  by_cases h1:off+1≤x∧x<off+1+ds.length
  ·rw[if_pos h1,if_pos (by omega)]
   rw[show x - off=(x - (off+1))+1 by omega,List.getD_cons_succ]
  ·rw[if_neg h1]
   by_cases h2:x=off
   ·subst h2
    rw[if_pos (by omega)]
    have:x<cs.length:=by omega
    simp[zq1,this]
   ·rw[if_neg (by omega)]
    simp[zq1,List.getElem?_set,show¬off=x by omega]
theorem j9 {x:D}:∀ {ds cs:List D} {off:Nat},x∈bD cs off ds→x∈cs∨x∈ds
 |[],cs,off,h=> .inl h
 |d::ds,cs,off,h=>by
  rcases j9 (ds:=ds) h with h |h
  ·rcases List.mem_or_eq_of_mem_set h with h |h
   ·exact .inl h
   ·exact .inr (by simp[h])
  ·exact .inr (by simp[h])
theorem wc {α β:Type} (f:α→Option β):∀ (l:List α),(l.all fun a=>(f a).isSome)=true→∃ ys:List β,l.mapM f=some ys∧∀ i:Nat,ys[i]? =(l[i]?).bind f
 |[],_=>⟨[],rfl,fun i=>by simp⟩
 |a::l,h=>by
  simp only[List.all_cons,zq3]at h
  obtain⟨y,hy⟩:=Option.isSome_iff_exists.1 h.1
  obtain⟨ys,h1,h2⟩:=wc f l h.2
  refine⟨y::ys,by simp[List.mapM_cons,hy,h1],fun i=> ?_⟩
  cases i with
  |zero=>simp[hy]
  |succ i=>simpa using h2 i
section
variable {C:Cx} {P:Program} {E:Env} {tm:Array Value} {st:St} {G:Gh} {w:World} {ρ:Operand→Value} {o:Oper} {V:Vw}
theorem we {t:TypeId} {z:Value} (hz:(P.info? t).bind (·.zero)=some z) (hi:qu P t=true):
  ∃ tv:Nat→Option (Nat×Nat),(∀ parts,P.built t parts=Instr.fill tv z.cells parts)∧∀ i p,nC P t i=some p→tv i=some p:=by
 cases ei:P.info? t with
 |none=>simp[ei]at hz
 |some it=>
  simp only[ei,Option.bind_some]at hz
  unfold qu at hi
  split at hi
  ·rename_i fs hu
   obtain⟨ys,h1,h2⟩:=wc (fun f:Field=>(P.info? f.type).map fun i=>(f.offset,i.size)) fs.toList (by simpa using hi)
   refine⟨fun i=>ys.toArray[i]?,fun parts=>by simp[Program.built,ei,hu,hz,h1],fun i p hp=> ?_⟩
   unfold nC at hp
   rw[hu]at hp
   simp only[List.getElem?_toArray]
   rw[h2]
   simp only at hp
   split at hp
   ·rename_i f hf
    rw[Array.getElem?_toList,hf]
    exact hp
   ·cases hp
  ·rename_i n e hu
   obtain⟨ie,he⟩:=Option.isSome_iff_exists.1 hi
   refine⟨fun i=>some (i*ie.size,ie.size),fun parts=>by simp[Program.built,ei,hu,hz,he],fun i p hp=> ?_⟩
   simpa[nC,hu,he]using hp
  ·cases hi
abbrev HV (C:Cx) (st:St) (G:Gh) (w:World) (ρ:Operand→Value):Prop:=
 ∀ x a,bM x a=true→RepT C st.os G w (ρ x) (a.val st.ts)∧∀ id,id∈refsD (a.val st.ts)→isDead (st.os.getD id .gone)=false
theorem zC (hv:HV C st G w ρ) {t:TypeId} {tv:Nat→Option (Nat×Nat)} (hp:∀ i p,nC P t i=some p→tv i=some p):
  ∀ (parts:List (Nat×Operand)) (ps:List (Nat×Nat)) (as:List Opd) (zs:List D) (cs:Array Value) (v:D) (ws:Wr),fg P t parts ps as=true→bE st.os C G w cs 0 zs→cs.size=zs.length→
   (∀ id,id∈refsL zs→isDead (st.os.getD id .gone)=false)→jV KS zs ps (as.map (Opd.val st.ts))=some (v,ws)→
   ∃ out ds,Instr.fill tv cs (parts.map fun p=>(p.1,ρ p.2))=some out∧v= .agg ds∧ws=[]∧bE st.os C G w out 0 ds∧out.size=ds.length∧∀ id,id∈refsL ds→isDead (st.os.getD id .gone)=false
 |[],[],[],zs,cs,v,ws,hc,hr,hs,hd,he=>by
  simp only[List.map_nil,jV,zq5,Prod.mk.injEq]at he
  obtain⟨rfl,rfl⟩:=he
  exact⟨cs,zs,rfl,rfl,rfl,hr,hs,hd⟩
 |(i,x)::parts,(off,n)::ps,a::as,zs,cs,v,ws,hc,hr,hs,hd,he=>by
  simp only[fg,zq3,beq_iff_eq]at hc
  obtain⟨⟨LI,GP⟩,Jf⟩:=hc
  simp only[List.map_cons,jV]at he
  split at he
  ·rename_i jd
   simp only[zq3,beq_iff_eq,Nat.ble_eq]at jd
   obtain⟨⟨hcell,hn⟩,hle⟩:=jd
   have hx:=hv x a GP
   obtain⟨h1,h2⟩:=qV hx.1 hcell
   have hpl:=hp i (off,n) LI
   obtain⟨f1,f2,f3⟩:=tu off (ρ x) cs (by omega)
   have hlen:(bD zs off (cellsOf (a.val st.ts))).length=zs.length:=ci _ _ _
   have hrel:bE st.os C G w ((ρ x).cells.zipIdx.foldl (fun (cs:Array Value) (p:Value×Nat)=>cs.setIfInBounds (off+p.2) p.1) cs) 0 (bD zs off (cellsOf (a.val st.ts))):=by
    refine⟨by rw[f1,hlen];omega,fun j hj=> ?_⟩
    rw[hlen]at hj
    rw[hD _ _ _ (by omega)]
    simp only[Nat.zero_add]
    split
    ·rename_i DV
     have:=f3 (j - off) (by omega)
     rw[show off+(j - off)=j by omega]at this
     rw[this]
     exact h2 _ (by omega)
    ·rw[f2 j (by omega)]
     have:=hr.2 j hj
     simpa using this
   have pE:∀ id,id∈refsL (bD zs off (cellsOf (a.val st.ts)))→isDead (st.os.getD id .gone)=false:=by
    intro id hid
    obtain⟨d,BL,E1⟩:=List.mem_flatMap.1 hid
    rcases j9 BL with h |h
    ·exact hd id (List.mem_flatMap.2 ⟨d,h,E1⟩)
    ·exact hx.2 id (by rw[←j8 hcell];exact List.mem_flatMap.2 ⟨d,h,E1⟩)
   obtain⟨out,ds,g1,g2⟩:=zC hv hp parts ps as _ _ v ws Jf hrel (by rw[f1,hlen,hs]) pE he
   refine⟨out,ds, ?_,g2⟩
   simp only[List.map_cons,Instr.fill,hpl]
   rw[if_neg (by simp;omega)]
   exact g1
  ·cases he
 |[],[],_::_,_,_,_,_,hc,_,_,_,_=>by simp[fg]at hc
 |[],_::_,_,_,_,_,_,hc,_,_,_,_=>by simp[fg]at hc
 |_::_,[],_,_,_,_,_,hc,_,_,_,_=>by simp[fg]at hc
 |_::_,_::_,[],_,_,_,_,hc,_,_,_,_=>by simp[fg]at hc
theorem yb (h:Rel C tm st G w) (hv:HV C st G w ρ) {t:TypeId} {zero:List D} {parts:Array (Nat×Operand)} {ps:List (Nat×Nat)} {as:List Opd} {v:D} {ws:Wr} (aW:o.op= .build t parts)
  (hz:oQ P t zero=true) (hi:qu P t=true) (hc:fg P t parts.toList ps as=true) (he:jV KS zero ps (as.map (Opd.val st.ts))=some (v,ws)):
  co C tm st G w v ws ((execOp ρ o).run P w):=by
 unfold oQ at hz
 split at hz
 ·rename_i z e
  simp only[zq3]at hz
  obtain⟨h1,h2⟩:=f_ hz.1
  have e2:∀ j,z.cells.toList.getD j undef=z.cells.getD j undef:=fun j=>by simp[zq2,zq1]
  obtain⟨tv,hb,hp⟩:=we e hi
  obtain⟨out,ds,g1,rfl,rfl,g2,g3,g4⟩:=zC hv hp parts.toList ps as zero z.cells v ws hc
   ⟨by have:z.cells.size=zero.length:=by simpa using h1
       omega,fun j hj=>by
    have:=h2 j hj
    rw[e2]at this
    simpa using jc this st.os⟩ (by simpa using h1) (fun id hid=>by
    obtain⟨d,hd,hi⟩:=List.mem_flatMap.1 hid
    obtain⟨j,hj,rfl⟩:=List.getElem_of_mem hd
    have:=h2 j hj
    rw[zq1 (l:=zero),zq4 hj]at this
    simp only[Option.getD_some]at this
    rw[(jb this).2]at hi
    cases hi) he
  refine .val h (v':= .agg out) ?_ ⟨out,rfl,g3,fun j hj=>by simpa using g2.2 j hj⟩ g4
  have LJ:P.built t (parts.map fun p=>(p.1,ρ p.2)).toList=some out:=by rw[hb,Array.toList_map];exact g1
  simp only[execOp,aW,Sem.run_bind,run_build w t _ out LJ,Result.andThen_ok,Sem.run_pure]
 ·cases hz
end
end
section
section
variable {C:Cx} {P:Program} {E:Env} {tm:Array Value} {st:St} {G:Gh} {w:World} {ρ:Operand→Value} {o:Oper} {V:Vw}
theorem DW {ts:List D} {nI:List Obj} (h:Rel C tm ⟨ts,nI⟩ G w) {s:Nat} (hs:nI[s]? =some .dead) {e:TypeId} {k:Vk} (hk:C.ty e=some k) {els:List D} {out:Array Value} {t:TypeId} {cap:Nat} {w':World}
  (hcap:els.length≤cap) (Jg:cap≤maxLen) (hsz:out.size=cap*k.ks.length) (hf:∀ d,d∈els→k.fits d=true)
  (hc:∀ i j,i<els.length→j<k.ks.length→RepV C.ty w (okB C nI G w) (out.getD (i*k.ks.length+j) undef) ((els.getD i .undef).cell j))
  (hw1:w'.heap[w.heap.size]? =some (.cells out t (0,0))) (hw2:w'.heap.size=w.heap.size+1) (hsame:∀ b,b<w.heap.size→w'.heap[b]? =w.heap[b]?) (ht:w'.tape=w.tape) (hos:w'.os=w.os) (hout:w'.output=w.output):
  Rel C tm ⟨ts,nI.set s (.arr e false els)⟩ (bx G s (.slice (some ⟨w.heap.size,0,none⟩) els.length cap,some w.heap.size)) w'∧
   RepT C (nI.set s (.arr e false els)) (bx G s (.slice (some ⟨w.heap.size,0,none⟩) els.length cap,some w.heap.size)) w' (.slice (some ⟨w.heap.size,0,none⟩) els.length cap) (.own e s els.length)∧
   isDead ((nI.set s (.arr e false els)).getD s .gone)=false:=by
 have hlt:s<nI.length:=(zq6.1 hs).1
 refine⟨?_,⟨⟨_,_,rfl,hcap,(fun h=>by cases h),(fun x hx=>by cases hx;exact fun _=>rfl)⟩, ?_⟩, ?_⟩
 ·refine Rel.newObj (st:=⟨ts,nI⟩) h hs rfl (fun b hb=>by cases hb;omega) hsame (by omega) ht hos hout ?_ (fun i hi=>by simp[refsO]at hi)
  refine⟨k,out.toList.take (els.length*k.ks.length),hk,⟨?_,.inr ⟨rfl,w.heap.size,cap,out,t,by simp[bx],by simp[bx],hw1,hcap,Jg,hsz,rfl⟩⟩,hf,fun i j hi hj=> ?_⟩
  ·have:els.length*k.ks.length≤cap*k.ks.length:=Nat.mul_le_mul_right _ hcap
   simp
   omega
  ·have h1:i*k.ks.length+j<els.length*k.ks.length:=by
    have:(i+1)*k.ks.length≤els.length*k.ks.length:=Nat.mul_le_mul_right _ hi
    rw[Nat.add_mul]at this
    omega
   have e1:(out.toList.take (els.length*k.ks.length)).getD (i*k.ks.length+j) undef=out.getD (i*k.ks.length+j) undef:=by
    simp[zq1,zq2,List.getElem?_take,h1]
   rw[e1]
   exact (hc i j hi hj).mono (fun b hb=>uy (by omega) (fun b hb=>by cases hb;exact Nat.le_refl _) hb) (fun b hb=>hsame b hb.1)
 ·rw[dE hlt]
  simp[oSh,bx]
 ·simp[zq1,hlt,isDead]
theorem frzAll_ok {ts:List D} {os0:List Obj} (hV:∀ id o,V id=o→o≠ .dead→os0[id]? =some o):∀ (ds:List D) (os:List Obj),Rel C tm ⟨ts,os⟩ G w→Fz os0 os→∀ (vs:Nat→Value),(∀ j,j<ds.length→RepT C os G w (vs j) (ds.getD j .undef))→
  (ds.all fun d=>pureD (frz V d).1)=true→oT C tm ts os0 os G w (ds.map fun d=>(frz V d).2).flatten∧
   ∀ j,j<ds.length→RepV C.ty w (okB C (wrL os (ds.map fun d=>(frz V d).2).flatten) G w) (vs j) (frz V (ds.getD j .undef)).1
 |[],os,h,hz,vs,hd,hp=>⟨.nil h hz,fun j hj=>by simp at hj⟩
 |d::ds,os,h,hz,vs,hd,hp=>by
  simp only[List.all_cons,zq3]at hp
  obtain⟨h1,h2⟩:=xX hV h hz (by simpa using hd 0 (by simp)) hp.1
  obtain⟨h3,h4⟩:=frzAll_ok hV ds (wrL os (frz V d).2) h1.rel h1.fz (fun j=>vs (j+1)) (fun j hj=>by
   have:=hd (j+1) (by simpa using hj)
   simp only[List.getD_cons_succ]at this
   exact this.mono h1.ok (fun _ _=>rfl) fun id _=> .inl ⟨h1.sh id,rfl⟩) hp.2
  refine⟨by simpa using h1.append h3,fun j hj=> ?_⟩
  simp only[List.map_cons,List.flatten_cons,bO]
  cases j with
  |zero=>exact h2.mono h3.ok (fun _ _=>rfl)
  |succ j=>simpa using h4 j (by simpa using hj)
theorem fits_rp {k:Vk} {d:D} (h:k.fits d=true):pureD d=true:=by
 rcases Vk.cB h with⟨hk,ds,rfl,hl⟩ |⟨hk,h1,hp,hn⟩
 ·simp only[Vk.fits,hk]at h
  simp only[pureD,List.all_eq_true]
  intro d hd
  obtain⟨j,hj,rfl⟩:=List.getElem_of_mem hd
  have h2:=(fitsL_spec h)
  have hj':j<k.ks.length:=by omega
  have:=h2.2 j k.ks[j] (by simp[hj'])
  rw[zq1,zq4 hj]at this
  exact fits_pure this
 ·simp only[Vk.fits,hk]at h
  obtain⟨_,s,_,h3⟩:=iA h
  cases d<;>first |rfl |(exact absurd rfl (hn _)) |(cases s<;>simp[GD.fits]at h3)
theorem tw {ok:Nat→Prop} {k:Vk} {v:Value} {d:D} (h:RepV C.ty w ok v d) (hf:k.fits d=true):
  v.cells.size=k.ks.length∧∀ j,j<k.ks.length→RepV C.ty w ok (v.cells.getD j undef) (d.cell j):=by
 rcases Vk.cB hf with⟨hk,ds,rfl,hl⟩ |⟨hk,h1,hp,hn⟩
 ·cases h with
  |agg cs ds hs hrep=>exact⟨by simp[Value.cells];omega,fun j hj=>hrep j (by omega)⟩
 ·have hv:v.cells= #[v]:=by
   cases h<;>first |rfl |exact absurd rfl (hn _)
  rw[hv]
  refine⟨by simp[h1],fun j hj=> ?_⟩
  have:j=0:=by omega
  subst this
  have hc:d.cell 0=d:=by cases d<;>first |rfl |exact absurd rfl (hn _)
  rw[hc]
  exact h
theorem wg (size:Nat):∀ (parts:List (Nat×Operand)) (as:List Opd) (n0:Nat) (cs:Array Value),iz n0 parts as=true→(∀ p,p∈parts→(ρ p.2).cells.size=size)→(n0+parts.length)*size≤cs.size→
  ∃ out,Instr.fill (fun i=>some (i*size,size)) cs (parts.map fun p=>(p.1,ρ p.2))=some out∧out.size=cs.size∧parts.length=as.length∧(∀ x,x<n0*size→out.getD x undef=cs.getD x undef)∧
   ∀ (i j:Nat) (p:Nat×Operand),parts[i]? =some p→j<size→out.getD ((n0+i)*size+j) undef=(ρ p.2).cells.getD j undef
 |[],[],n0,cs,hc,hs,hl=>⟨cs,rfl,rfl,rfl,fun _ _=>rfl,fun i j p hp=>by simp at hp⟩
 |(i0,x)::parts,a::as,n0,cs,hc,hs,hl=>by
  simp only[iz,zq3,beq_iff_eq]at hc
  obtain⟨⟨rfl,GP⟩,Jf⟩:=hc
  simp only[List.length_cons]at hl
  have LK:=hs _ (List.mem_cons_self ..)
  simp only at LK
  have hle:(i0+1)*size≤cs.size:=Nat.le_trans (Nat.mul_le_mul_right _ (by omega)) hl
  rw[Nat.add_mul,Nat.one_mul]at hle
  obtain⟨f1,f2,f3⟩:=tu (i0*size) (ρ x) cs (by omega)
  obtain⟨out,g1,g2,g3,g4,g5⟩:=wg size parts as (i0+1) _ Jf (fun p hp=>hs p (List.mem_cons_of_mem _ hp)) (by rw[f1,show i0+1+parts.length=i0+(parts.length+1)by omega];exact hl)
  refine⟨out, ?_,by rw[g2,f1],by simp[g3],fun y hy=> ?_,fun i j p hp hj=> ?_⟩
  ·simp only[List.map_cons,Instr.fill]
   rw[if_neg (by simp;omega)]
   exact g1
  ·rw[g4 y (by rw[Nat.add_mul];omega),f2 y (.inl hy)]
  ·cases i with
   |zero=>
    simp at hp
    subst hp
    have e0:(i0+0)*size+j<(i0+1)*size:=by rw[Nat.add_zero,Nat.add_mul,Nat.one_mul];omega
    rw[g4 _ e0]
    simpa using f3 j (by omega)
   |succ i=>
    have:=g5 i j p (by simpa using hp) hj
    rw[←this,show i0+(i+1)=i0+1+i by omega]
 |[],_::_,_,_,hc,_,_=>by simp[iz]at hc
 |_::_,[],_,_,hc,_,_=>by simp[iz]at hc
theorem qW:∀ (parts:List (Nat×Operand)) (as:List Opd) (n0:Nat),iz n0 parts as=true→parts.length=as.length∧∀ (i:Nat) (p:Nat×Operand) (a:Opd),parts[i]? =some p→as[i]? =some a→bM p.2 a=true
 |[],[],_,_=>⟨rfl,fun i p a h=>by simp at h⟩
 |(i0,x)::parts,a::as,n0,hc=>by
  simp only[iz,zq3,beq_iff_eq]at hc
  obtain⟨h1,h2⟩:=qW parts as (n0+1) hc.2
  refine⟨by simp[h1],fun i p b hp ha=> ?_⟩
  cases i with
  |zero=>simp at hp ha;subst hp ha;exact hc.1.2
  |succ i=>exact h2 i p b (by simpa using hp) (by simpa using ha)
 |[],_::_,_,hc=>by simp[iz]at hc
 |_::_,[],_,hc=>by simp[iz]at hc
theorem uz (h:Rel C tm st G w) (hT:vW C P) (hV:∀ id o,V id=o→o≠ .dead→st.os[id]? =some o) (hv:HV C st G w ρ) {t e:TypeId} {n s:Nat} {k:Vk} {parts:Array (Nat×Operand)} {as:List Opd} {v:D} {ws:Wr}
  (hs:st.os[s]? =some .dead) (aW:o.op= .buildSlice t n parts) (ht:xV P t e=true) (hn:n=as.length) (hc:iz 0 parts.toList as=true) (hk:C.ty e=some k)
  (hsz:(match P.info? e with |some i=>decide (n*k.ks.length≤16777216)&&((i.zero.map fun z=>z.cells.size)==some k.ks.length) |none=>false)=true)
  (hfit:((as.map (Opd.val st.ts)).all fun d=>k.fits (frz V d).1)=true):
  co C tm st G w (.own e s (as.map (Opd.val st.ts)).length) (((as.map (Opd.val st.ts)).map fun d=>(frz V d).2).flatten++[(s,.arr e false ((as.map (Opd.val st.ts)).map fun d=>(frz V d).1))]) ((execOp ρ o).run P w):=by
 obtain⟨hpl,hget⟩:=qW _ _ _ hc
 obtain⟨hok,hpos⟩:=hT e k hk
 obtain⟨k9,iV,lc,_,_⟩:=dv hok
 simp only[iV,zq3,decide_eq_true_eq,beq_iff_eq]at hsz
 have hp:((as.map (Opd.val st.ts)).all fun d=>pureD (frz V d).1)=true:=by
  rw[List.all_eq_true]at hfit⊢
  exact fun d hd=>fits_rp (hfit d hd)
 have hlen:parts.size=as.length:=by simpa using hpl
 have hrep:∀ j,j<(as.map (Opd.val st.ts)).length→RepT C st.os G w ((fun j=>ρ (parts.getD j (0,.tmp 0)).2) j) ((as.map (Opd.val st.ts)).getD j .undef):=by
  intro j hj
  simp only[List.length_map]at hj
  have hj':j<parts.size:=by omega
  have:=(hv _ _ (hget j parts[j] as[j] (by simp[hj']) (by simp[hj]))).1
  simpa[zq2,zq1,hj,hj']using this
 obtain⟨hz,hr⟩:=frzAll_ok (V:=V) hV (as.map (Opd.val st.ts)) st.os h (.refl st.os) _ hrep hp
 have Cb:∀ j,j<as.length→(ρ (parts.getD j (0,.tmp 0)).2).cells.size=k.ks.length∧∀ i,i<k.ks.length→
   RepV C.ty w (okB C (wrL st.os ((as.map (Opd.val st.ts)).map fun d=>(frz V d).2).flatten) G w) ((ρ (parts.getD j (0,.tmp 0)).2).cells.getD i undef) ((frz V ((as.map (Opd.val st.ts)).getD j .undef)).1.cell i):=by
  intro j hj
  exact tw (hr j (by simpa using hj)) (List.all_eq_true.1 hfit _ (mem_getD (by simpa using hj)))
 obtain⟨z,hz1,hz2⟩:∃ z,k9.zero=some z∧z.cells.size=k.ks.length:=by
  cases e1:k9.zero with
  |none=>simp[e1]at hsz
  |some z=>exact⟨z,rfl,by simpa[e1]using hsz.2⟩
 obtain⟨out,g1,g2,_,_,g5⟩:=wg (ρ:=ρ) k.ks.length parts.toList as 0 ((Array.range (n*k.ks.length)).map fun x=>(if n*k.ks.length=0 then #[]else z.cells)[x % (if n*k.ks.length=0 then #[]else z.cells).size]!) hc (fun p hp=>by
   obtain⟨j,hj,rfl⟩:=List.getElem_of_mem hp
   have hj':j<parts.size:=by simpa using hj
   have:=(Cb j (by omega)).1
   simpa[zq2,hj']using this) (by simp[hlen,hn])
 have hsd:(wrL st.os ((as.map (Opd.val st.ts)).map fun d=>(frz V d).2).flatten)[s]? =some .dead:=by
  rcases hz.fz s _ hs with h' |⟨_,_,_,h',_⟩ |⟨_,h',_⟩
  ·exact h'
  ·cases h'
  ·cases h'
 have hmx:n≤maxLen:=by
  have:n*1≤n*k.ks.length:=Nat.mul_le_mul_left _ hpos
  simp only[maxLen]
  omega
 have Hi:((as.map (Opd.val st.ts)).map fun d=>(frz V d).1).length=n:=by simp[hn]
 obtain⟨r1,r2,r3⟩:=DW (w':=w.alloc (.cells out e)) hz.rel hsd hk (els:=(as.map (Opd.val st.ts)).map fun d=>(frz V d).1) (cap:=n) (by omega) hmx (by rw[g2];simp)
  (fun d hd=>by
   obtain⟨d',hd',rfl⟩:=List.mem_map.1 hd
   exact List.all_eq_true.1 hfit _ hd') (fun i j hi hj=>by
   rw[Hi]at hi
   have hi':i<parts.size:=by omega
   have:=g5 i j parts[i] (by simp[hi']) hj
   simp only[Nat.zero_add]at this
   rw[this]
   have:=(Cb i (by omega)).2 j hj
   have e3:((as.map (Opd.val st.ts)).map fun d=>(frz V d).1).getD i .undef=(frz V ((as.map (Opd.val st.ts)).getD i .undef)).1:=by
    simp[zq1,show i<as.length by omega]
   rw[e3]
   simpa[zq2,hi']using this) (heap_alloc_new w _) (by simp) (fun b hb=>heap_alloc_old w _ b hb) rfl rfl rfl
 rw[Hi]at r1 r2
 refine⟨_,_,_,.inl ?_,by rw[bO];exact r1,by rw[bO,iB];simpa[hn]using r2, ?_, ?_⟩
 ·have Hj:Instr.fill (fun i=>some (i*k.ks.length,k.ks.length)) ((Array.range (n*k.ks.length)).map fun x=>(if n*k.ks.length=0 then #[]else z.cells)[x % (if n*k.ks.length=0 then #[]else z.cells).size]!) (parts.map fun p=>(p.1,ρ p.2)).toList=some out:=by
   rw[Array.toList_map];exact g1
  have hle: ¬2^24<n*k.ks.length:=by omega
  simp only[execOp,aW,Instr.buildSlice,Sem.run_bind,run_underlying (jt ht),Result.andThen_ok,run_sizeOf iV,lc,Sem.run_ite,gt_iff_lt,hle,if_false,Sem.run_pure]
  by_cases h0:n*k.ks.length=0
  ·rw[h0]at Hj
   simp only[h0,if_true]at Hj⊢
   simp only[Sem.run_pure,Result.andThen_ok,Sem.run_bind,Hj]
   simp[newRow,hn]
  ·simp only[h0,if_false]at Hj⊢
   have ez:(zeroValue e).run P w= .ok z w:=by simp[zeroValue,typeInfo,iV,hz1]
   simp only[Sem.run_pure,Result.andThen_ok,Sem.run_bind,ez,Hj]
   simp[newRow,hn]
 ·intro i hi
  simp[refsD,refs1,refs0,refsb]at hi
  subst hi
  rw[bO];exact r3
 ·intro i hi
  simp[bx,j7 hs hi]
end
end
section
theorem tx:∀ {xs:List Operand} {as:List Opd},eB xs as=true→xs.length=as.length∧∀ (i:Nat) (x:Operand) (a:Opd),xs[i]? =some x→as[i]? =some a→bM x a=true
 |[],[],_=>⟨rfl,fun i x a h=>by simp at h⟩
 |x::xs,a::as,h=>by
  simp only[eB,zq3]at h
  obtain⟨h1,h2⟩:=tx h.2
  refine⟨by simp[h1],fun i y b hy hb=> ?_⟩
  cases i with
  |zero=>simp at hy hb;subst hy hb;exact h.1
  |succ i=>exact h2 i y b (by simpa using hy) (by simpa using hb)
 |[],_::_,h=>by simp[eB]at h
 |_::_,[],h=>by simp[eB]at h
theorem tz {id:Nat}:∀ (ws:Wr) (os:List Obj),(ws.all fun q=> !(Nat.beq q.1 id))=true→(wrL os ws)[id]? =os[id]?
 |[],os,_=>rfl
 |(i,o)::ws,os,h=>by
  simp only[List.all_cons,zq3]at h
  rw[wrL,tz ws _ h.2,List.getElem?_set]
  have: ¬i=id:=by
   intro e
   subst e
   have:=h.1
   simp at this
  rw[if_neg this]
section
variable {C:Cx} {P:Program} {E:Env} {tm:Array Value} {st:St} {G:Gh} {w:World} {ρ:Operand→Value} {o:Oper} {V:Vw}
theorem uA (hv:HV C st G w ρ) {xs:Array Operand} {as:List Opd} (hc:eB xs.toList as=true):
  (xs.map ρ).size=(as.map (Opd.val st.ts)).length∧(∀ j,j<(as.map (Opd.val st.ts)).length→RepT C st.os G w ((xs.map ρ).getD j undef) ((as.map (Opd.val st.ts)).getD j .undef))∧
   ∀ d,d∈as.map (Opd.val st.ts)→∀ id,id∈refsD d→isDead (st.os.getD id .gone)=false:=by
 obtain⟨h1,h2⟩:=tx hc
 have hlen:xs.size=as.length:=by simpa using h1
 refine⟨by simp[hlen],fun j hj=> ?_,fun d hd=> ?_⟩
 ·simp only[List.length_map]at hj
  have hj':j<xs.size:=by omega
  have:=(hv _ _ (h2 j xs[j] as[j] (by simp[hj']) (by simp[hj]))).1
  simpa[zq2,zq1,hj,hj']using this
 ·obtain⟨a,ha,rfl⟩:=List.mem_map.1 hd
  obtain⟨j,hj,rfl⟩:=List.getElem_of_mem ha
  have hj':j<xs.size:=by omega
  exact (hv _ _ (h2 j xs[j] as[j] (by simp[hj']) (by simp[hj]))).2
theorem AE (h:Rel C tm st G w) (hV:∀ id o,V id=o→o≠ .dead→st.os[id]? =some o) (hv:HV C st G w ρ) {g:FuncId} {first cap:Array Operand} {as:List Opd}
  (aW:o.op= .makeFunc (.func g) first cap) (hf:first.isEmpty=true) (hc:eB cap.toList as=true) (hp:((as.map (Opd.val st.ts)).all fun d=>pureD (frz V d).1)=true):
  co C tm st G w (.fn g ((as.map (Opd.val st.ts)).map fun d=>(frz V d).1)) ((as.map (Opd.val st.ts)).map fun d=>(frz V d).2).flatten ((execOp ρ o).run P w):=by
 obtain⟨h1,h2,h3⟩:=uA hv hc
 obtain⟨hz,hr⟩:=frzAll_ok (V:=V) hV (as.map (Opd.val st.ts)) st.os h (.refl st.os) _ h2 hp
 have he:first= #[]:=by simpa using hf
 refine⟨.func (.func g) #[] (cap.map ρ),w,G,.inl ?_,hz.rel, ?_,fun id hid=>by simp[refsD,refs1,refs0,refsb]at hid,fun _ _=>rfl⟩
 ·simp[execOp,aW,Instr.makeFunc,he]
 ·refine .fn g _ _ (by rw[h1];simp) (fun j hj=> ?_)
  have hj':j<(as.map (Opd.val st.ts)).length:=by simpa using hj
  have:=hr j hj'
  have e3:((as.map (Opd.val st.ts)).map fun d=>(frz V d).1).getD j .undef=(frz V ((as.map (Opd.val st.ts)).getD j .undef)).1:=by
   have:j<as.length:=by simpa using hj'
   simp[zq1,this]
  rw[e3]
  exact this
theorem AF {os:List Obj} {v:Value} {d:D} (h:RepT0 C os G w v d) (hc:cell0 d=true):v.oneCell'=true:=by
 cases d with
 |own e id n=>obtain⟨⟨a,c,rfl,_⟩,_⟩:=h;rfl
 |undef=>simp[cell0,pure0]at hc
 |agg _=>exact h.elim
 |tup _=>exact h.elim
 |ov _ _ _=>exact h.elim
 |pv _=>exact h.elim
 |mpv _ _=>exact h.elim
 |fnr f ids=>obtain⟨caps,rfl,_⟩:=h;rfl
 |mo _=>simp[cell0,pure0]at hc
 |yl _=>simp[cell0,pure0]at hc
 |ownv _ _ _ _=>simp[cell0,pure0]at hc
 |ptr _ _=>simp[cell0,pure0]at hc
 |elp _ _ _ _=>simp[cell0,pure0]at hc
 |ela _ _ _=>simp[cell0,pure0]at hc
 |elaP _ _ _ _ _=>simp[cell0,pure0]at hc
 |_=>simp only[RepT0]at h;cases h<;>rfl
theorem mD (h:Rel C tm st G w) (hV:∀ id o,V id=o→o≠ .dead→st.os[id]? =some o) {t:TypeId} {x y:Operand} {k:Vk} {id off:Nat} {d:D} {cs:List D}
  (aW:o.op= .store t x y) (hs:szOk P t k=true) (hx:RepT C st.os G w (ρ x) (.ptr id off)) (hy:RepT C st.os G w (ρ y) d∧∀ id,id∈refsD d→isDead (st.os.getD id .gone)=false)
  (hid:V id= .var cs) (hc:(cellsOf d).all cell0=true) (hn:(cellsOf d).length=k.ks.length) (hle:off+k.ks.length≤cs.length):
  co C tm st G w (.tup []) [(id,.var (bD cs off (cellsOf d)))] ((execOp ρ o).run P w):=by
 have hid':=hV id _ hid (by simp)
 have hlt:id<st.os.length:=(zq6.1 hid').1
 obtain⟨k9,iV,lc,_,_⟩:=dv hs
 obtain⟨g,cells,ct,hg,hh,hsz,xW⟩:=h.os id _ hid'
 simp only[RepT,RepT1,RepT0,oAt_of hid',oSh]at hx
 obtain⟨_,g',h1,h2⟩:=hx
 rw[hg]at h1
 simp only[Value.pointer.injEq,zq5,Addr.mk.injEq,and_true]at h1
 subst h1
 obtain⟨c1,c2⟩:=qV hy.1 hc
 have Cc:∀ v∈(ρ y).cells.toList,v.oneCell'=true:=by
  intro v hv
  obtain⟨j,hj,rfl⟩:=List.getElem_of_mem hv
  have hj':j<(ρ y).cells.size:=by simpa using hj
  have:=c2 j (by omega)
  have e1:(ρ y).cells.getD j undef=(ρ y).cells.toList[j]:=by simp[zq2,hj']
  rw[e1]at this
  exact AF this (List.all_eq_true.1 hc _ (mem_getD (by omega)))
 have hst:=run_storeCells_at P g off ct (ρ y).cells.toList 0 cells w hh (by simp;omega) Cc
 generalize hnew:(cells.toList.take (off+0)++(ρ y).cells.toList++cells.toList.drop (off+0+(ρ y).cells.toList.length)).toArray=new at hst
 have Jh:new.size=cells.size:=by
  subst hnew
  simp
  omega
 have Hk:∀ j,j<cells.size→new.getD j undef=if off≤j∧j<off+k.ks.length then (ρ y).cells.getD (j - off) undef else cells.getD j undef:=by
  intro j hj
  subst hnew
  rw[zq2,List.getElem?_toArray,List.getElem?_append,List.getElem?_append]
  have e0:(cells.toList.take (off+0)).length=off:=by simp;omega
  have e2:(ρ y).cells.toList.length=k.ks.length:=by simp;omega
  rw[List.length_append,e0,e2]
  by_cases uB:j<off
  ·rw[if_pos (by omega),if_pos uB,if_neg (by omega),List.getElem?_take_of_lt (by omega)]
   simp[zq2]
  ·by_cases qf:j<off+k.ks.length
   ·rw[if_pos qf,if_neg uB,if_pos (by omega)]
    simp[zq2]
   ·rw[if_neg qf,if_neg (by omega),List.getElem?_drop,show off+0+k.ks.length+(j - (off+k.ks.length))=j by omega]
    simp[zq2]
 have hrel:Rel C tm ⟨st.ts,st.os.set id (.var (bD cs off (cellsOf d)))⟩ (bx G id (G id)) (w.setRow g new):=by
  have pE:∀ i,i∈refsL (bD cs off (cellsOf d))→isDead (st.os.getD i .gone)=false:=by
   intro i hi
   obtain⟨x,oI,tB⟩:=List.mem_flatMap.1 hi
   rcases j9 oI with h' |h'
   ·exact h.rO id _ hid' i (List.mem_flatMap.2 ⟨x,h',tB⟩)
   ·exact hy.2 i (by rw[←j8 hc];exact List.mem_flatMap.2 ⟨x,h',tB⟩)
  have hok:∀ b,okB C st.os G w b→okB C (st.os.set id (.var (bD cs off (cellsOf d)))) (bx G id (G id)) (w.setRow g new) b:=by
   rintro b ⟨b1,b2,b3⟩
   refine⟨by simpa using b1,fun ⟨j,oj,hj,hl,hb⟩=>b2 ?_,b3⟩
   rw[List.getElem?_set]at hj
   by_cases e:id=j
   ·subst e
    simp only[bx,if_true]at hb
    exact⟨id,_,hid',rfl,hb⟩
   ·have e': ¬j=id:=fun x=>e x.symm
    simp only[e,if_false]at hj
    simp only[bx,e',if_false]at hb
    exact⟨j,oj,hj,hl,hb⟩
  have hS:Same (okB C st.os G w) w (w.setRow g new):=fun b hb=>setRow_other w g b _ (fun e=>hb.2.1 ⟨id,_,hid',rfl,by rw[hg,e]⟩)
  have jG:∀ i,isDead (st.os.getD i .gone)=false→(oAt (st.os.set id (.var (bD cs off (cellsOf d)))) i=oAt st.os i∧bx G id (G id) i=G i)∨oAt (st.os.set id (.var (bD cs off (cellsOf d)))) i= .no:=by
   intro i _
   left
   refine⟨?_,by simp only[bx];split<;>simp_all⟩
   rw[dE hlt]
   split
   ·rename_i e;subst e;rw[oAt_of hid'];simp[oSh,ci]
   ·rfl
  refine h.GK hid' (.inr ⟨rfl,.inl (by simp[oSh,ci])⟩) rfl (fun _ b hb=> .inr ⟨rfl,hb⟩) (fun b hb hne=>setRow_other w g b _ (fun e=>hne ⟨rfl,by rw[hg,e]⟩)) (by simp) rfl rfl rfl ?_
   (fun i hi=>cJ rfl (pE i hi))
  refine⟨g,new,ct,by simp[hg],setRow_heap w g cells _ ct _ hh,by rw[Jh,hsz,ci],fun j hj=> ?_⟩
  rw[ci]at hj
  rw[Hk j (by omega),hD _ _ _ (by omega),hn]
  by_cases DV:off≤j∧j<off+k.ks.length
  ·rw[if_pos DV,if_pos DV]
   exact⟨(c2 (j - off) (by omega)).mono hok hS (fun i hi=>jG i (hy.2 i (by rw[←j8 hc];exact List.mem_flatMap.2 ⟨_,mem_getD (by omega),hi⟩))),List.all_eq_true.1 hc _ (mem_getD (by omega))⟩
  ·rw[if_neg DV,if_neg DV]
   have:=xW j hj
   exact⟨this.1.mono hok hS (fun i hi=>jG i (h.rO id _ hid' i (List.mem_flatMap.2 ⟨_,mem_getD hj,hi⟩))),this.2⟩
 refine⟨undef,_,_,.inr ⟨rfl, ?_⟩,hrel,⟨#[],rfl,rfl,fun j hj=>by simp at hj⟩,fun i hi=>by simp[refsD]at hi,fun i _=>by simp only[bx];split<;>simp_all⟩
 have hsize:(ρ y).cells.size=k9.size:=by omega
 simp[execOp,aW,Instr.storeAt,Instr.sureAddr,h2,storeVar,run_sizeOf iV,hsize,hst]
end
end
section
section
variable {C:Cx} {P:Program} {E:Env} {tm:Array Value} {st:St} {G:Gh} {w:World} {ρ:Operand→Value} {o:Oper} {V:Vw}
structure Cd (C:Cx) (os:List Obj) (G:Gh) (w:World) (id:Nat) (k:Vk) (l:List D) (nb:Bool) (g cap:Nat) (cur:Array Value) (t:TypeId):Prop where
 nb:nb=false
 g2:(G id).2=some g
 g1:(G id).1= .slice (some ⟨g,0,none⟩) l.length cap
 hh:w.heap[g]? =some (.cells cur t (0,0))
 nc:l.length≤cap
 cm:cap≤maxLen
 cs:cur.size=cap*k.ks.length
 fit:∀ d,d∈l→k.fits d=true
 rep:∀ i j,i<l.length→j<k.ks.length→RepV C.ty w (okB C os G w) (cur.getD (i*k.ks.length+j) undef) ((l.getD i .undef).cell j)
theorem idx_lt {i j n m c:Nat} (hi:i<n) (hj:j<m) (hn:n≤c):i*m+j<c*m:=by
 have h1:(i+1)*m≤n*m:=Nat.mul_le_mul_right _ hi
 have h2:n*m≤c*m:=Nat.mul_le_mul_right _ hn
 rw[Nat.add_mul]at h1
 omega
theorem row_at {os:List Obj} {id:Nat} {e:TypeId} {nb:Bool} {l:List D} {k:Vk} (ho:ObjRel C os G w id (.arr e nb l)) (hk:C.ty e=some k):
  (l.length=0∧∃ a:Option Addr,(G id).2=none∧(G id).1= .slice a 0 0∧nb=a.isNone∧∀ x,a=some x→(0:Nat)≠0→x.spot=none)∨∃ g cap cur t,Cd C os G w id k l nb g cap cur t:=by
 obtain⟨k',xs,h1,⟨h2,h3⟩,h4,h5⟩:=ho
 rw[hk]at h1
 cases h1
 rcases h3 with⟨e1,e2,a,e3,e4,e5⟩ |⟨e0,g,cap,cur,t,e1,e2,e3,e4,e5,e6,e7⟩
 ·exact .inl ⟨e2,a,e1,e3,e4,e5⟩
 ·refine .inr ⟨g,cap,cur,t,e0,e1,e2,e3,e4,e5,e6,h4,fun i j hi hj=> ?_⟩
  have:=h5 i j hi hj
  rw[e7]at this
  simpa[zq1,zq2,List.getElem?_take,idx_lt hi hj (Nat.le_refl _)]using this
theorem zD {ts:List D} {os:List Obj} (h:Rel C tm ⟨ts,os⟩ G w) {id:Nat} {e:TypeId} {nb:Bool} {l l':List D} {k:Vk} (hid:os[id]? =some (.arr e nb l)) (hk:C.ty e=some k)
  {g cap:Nat} {cur new:Array Value} {t:TypeId} (hr:Cd C os G w id k l nb g cap cur t) (Hl:new.size=cur.size) (hl:l'.length=l.length) (hf:∀ d,d∈l'→k.fits d=true)
  (hc:∀ i j,i<l.length→j<k.ks.length→RepV C.ty w (okB C os G w) (new.getD (i*k.ks.length+j) undef) ((l'.getD i .undef).cell j)):Rel C tm ⟨ts,os.set id (.arr e nb l')⟩ G (w.setRow g new):=by
 have hlt:id<os.length:=(zq6.1 hid).1
 have hok:∀ b,okB C os G w b→okB C (os.set id (.arr e nb l')) G (w.setRow g new) b:=by
  rintro b ⟨b1,b2,b3⟩
  refine⟨by simpa using b1,fun ⟨j,oj,hj,hl,hb⟩=>b2 ?_,b3⟩
  rw[List.getElem?_set]at hj
  by_cases e:id=j
  ·subst e
   exact⟨id,_,hid,rfl,hb⟩
  ·simp only[e,if_false]at hj
   exact⟨j,oj,hj,hl,hb⟩
 have hS:Same (okB C os G w) w (w.setRow g new):=fun b hb=>setRow_other w g b _ (fun e=>hb.2.1 ⟨id,_,hid,rfl,by rw[hr.g2,e]⟩)
 have:=Rel.GK (st:=⟨ts,os⟩) h (o':= .arr e nb l') (gh:=G id) (w':=w.setRow g new) hid (.inr ⟨rfl,.inl (by simp[oSh,hl])⟩) rfl (fun _ b hb=> .inr ⟨rfl,hb⟩)
  (fun b hb hne=>setRow_other w g b _ (fun e=>hne ⟨rfl,by rw[hr.g2,e]⟩)) (by simp) rfl rfl rfl (by
   rw[oS]
   refine⟨k,new.toList.take (l'.length*k.ks.length),hk,⟨?_,.inr ⟨hr.nb,g,cap,new,t,hr.g2,by rw[hl];exact hr.g1,setRow_heap w g cur _ t _ hr.hh,by rw[hl];exact hr.nc,hr.cm,by rw[Hl,hr.cs],rfl⟩⟩,hf,fun i j hi hj=> ?_⟩
   ·have:l'.length*k.ks.length≤cap*k.ks.length:=Nat.mul_le_mul_right _ (by rw[hl];exact hr.nc)
    have:=hr.cs
    simp
    omega
   ·have e1:(new.toList.take (l'.length*k.ks.length)).getD (i*k.ks.length+j) undef=new.getD (i*k.ks.length+j) undef:=by
     simp[zq1,zq2,List.getElem?_take,idx_lt hi hj (Nat.le_refl _)]
    rw[e1]
    exact (hc i j (by omega) hj).mono hok hS) (fun i hi=>by simp[refsO]at hi)
 rwa [oS]at this
theorem oW {vs:List Value} {cur:Array Value} {off:Nat} (hl:off+vs.length≤cur.size):
  (cur.toList.take (off+0)++vs++cur.toList.drop (off+0+vs.length)).toArray.size=cur.size∧
  ∀ j,j<cur.size→(cur.toList.take (off+0)++vs++cur.toList.drop (off+0+vs.length)).toArray.getD j undef=if off≤j∧j<off+vs.length then vs.getD (j - off) undef else cur.getD j undef:=by
 refine⟨by simp;omega,fun j hj=> ?_⟩
 rw[zq2,List.getElem?_toArray,List.getElem?_append,List.getElem?_append]
 have e0:(cur.toList.take (off+0)).length=off:=by simp;omega
 rw[List.length_append,e0]
 by_cases uB:j<off
 ·rw[if_pos (by omega),if_pos uB,if_neg (by omega),List.getElem?_take_of_lt (by omega)]
  simp[zq2]
 ·by_cases qf:j<off+vs.length
  ·rw[if_pos qf,if_neg uB,if_pos (by omega)]
   simp[zq1]
  ·rw[if_neg qf,if_neg (by omega),List.getElem?_drop,show off+0+vs.length+(j - (off+vs.length))=j by omega]
   simp[zq2]
theorem FS {i j i' j' m:Nat} (hj:j<m) (hj':j'<m) (h:i*m+j=i'*m+j'):i=i'∧j=j':=by
 have h1:(i*m+j)/m=i:=by rw[Nat.mul_comm,Nat.mul_add_div (by omega),Nat.div_eq_of_lt hj];omega
 have h2:(i'*m+j')/m=i':=by rw[Nat.mul_comm,Nat.mul_add_div (by omega),Nat.div_eq_of_lt hj'];omega
 have:i=i':=by rw[←h1,h,h2]
 subst this
 omega
theorem fitsL_of:∀ {ks:List Sk} {ds:List D},ds.length=ks.length→(∀ (j:Nat) (k:Sk),ks[j]? =some k→fits k (ds.getD j .undef)=true)→fitsL ks ds=true
 |[],[],_,_=>rfl
 |k::ks,d::ds,hl,h=>by
  simp only[fitsL,zq3]
  refine⟨by simpa using h 0 k rfl,fitsL_of (by simpa using hl) (fun j s hs=> ?_)⟩
  have:=h (j+1) s (by simpa using hs)
  simpa using this
 |[],_::_,hl,_=>by simp at hl
 |_::_,[],hl,_=>by simp at hl
theorem wh {k:Vk} {v:D} (h:k.fits v=true):(cellsOf v).length=k.ks.length∧∀ j,j<k.ks.length→(cellsOf v).getD j .undef=v.cell j:=by
 rcases Vk.cB h with⟨hk,ds,rfl,hl⟩ |⟨hk,h1,hp,hn⟩
 ·exact⟨hl,fun j hj=>rfl⟩
 ·have e:cellsOf v=[v]:=by cases v<;>first |rfl |exact absurd rfl (hn _)
  rw[e]
  refine⟨by simp[h1],fun j hj=> ?_⟩
  have:j=0:=by omega
  subst this
  cases v<;>first |rfl |exact absurd rfl (hn _)
theorem wi (hE:E.ty=C.ty) {e:TypeId} {k el:Vk} {d v:D} {off:Nat} (hel:C.ty e=some el) (hty:oK E e off k=true) (hka:(el.agg || !k.agg)=true) (hd:el.fits d=true) (hv:k.fits v=true):
  el.fits (f9 k el d off v)=true∧∀ j,j<el.ks.length→(f9 k el d off v).cell j=if off≤j∧j<off+k.ks.length then v.cell (j - off)else d.cell j:=by
 obtain⟨t1,t2,t3⟩:=oU hE hty hel
 have LL:=Vk.cg hv
 have KJ:=Vk.cg hd
 unfold f9
 cases ha:el.agg with
 |false=>
  simp only
  rw[ha]at hka
  simp only[Bool.false_or,Bool.not_eq_true']at hka
  rcases Vk.cB hd with⟨h',_⟩ |⟨_,l1,_⟩
  ·rw[ha]at h';cases h'
  have l2:=t3 hka
  have h0:off=0:=by omega
  subst h0
  have hks:k.ks=el.ks:=by
   apply List.ext_getElem (by omega)
   intro j uB qf
   have:=t2 j k.ks[j] (zq4 uB)
   rw[Nat.zero_add,zq4 qf]at this
   simpa using this.symm
  refine⟨?_,fun j hj=>by rw[if_pos (by omega),Nat.sub_zero]⟩
  simp only[Vk.fits,hka]at hv
  simp only[Vk.fits,ha,←hks]
  exact hv
 |true=>
  simp only
  rcases Vk.cB hd with⟨_,ds,rfl,l1⟩ |⟨h',_⟩
  ·split
   ·rename_i hc
    obtain⟨rfl,hk2,hk3⟩:=hc
    have hks:k.ks=el.ks:=by
     apply List.ext_getElem hk3
     intro j uB qf
     have:=t2 j k.ks[j] (zq4 uB)
     rw[Nat.zero_add,zq4 qf]at this
     simpa using this.symm
    refine⟨?_,fun j hj=>by rw[if_pos (by omega),Nat.sub_zero]⟩
    rcases Vk.cB hv with⟨_,vs,rfl,_⟩ |⟨h',_⟩
    ·simp only[Vk.fits,hk2]at hv
     simp only[Vk.fits,ha,←hks]
     exact hv
    ·rw[hk2]at h';cases h'
   ·obtain⟨c1,c2⟩:=wh hv
    have hcell:∀ j,j<el.ks.length→(bD (ck el.ks (.agg ds) 0) off (cellsOf v)).getD j .undef=if off≤j∧j<off+k.ks.length then v.cell (j - off)else (D.agg ds).cell j:=by
     intro j hj
     rw[hD _ _ _ (by rw[cu];omega),c1]
     split
     ·rw[c2 _ (by omega)]
     ·rw[fj _ _ _ _ hj (fun i s hs=>by rw[Nat.zero_add];exact KJ i s hs),Nat.zero_add]
    refine⟨?_,hcell⟩
    simp only[Vk.fits,ha]
    refine fitsL_of (by rw[ci,cu]) (fun j s hs=> ?_)
    have hj:=(zq6.1 hs).1
    rw[hcell j hj]
    split
    ·rename_i DV
     have qf:j - off<k.ks.length:=by omega
     have:=t2 (j - off) k.ks[j - off] (zq4 qf)
     rw[show off+(j - off)=j by omega,hs]at this
     simp only[zq5]at this
     subst this
     exact LL (j - off) _ (zq4 qf)
    ·exact KJ j s hs
  ·rw[ha]at h';cases h'
theorem ld {ok:Nat→Prop} {v:Value} {s:Sk} {d:D} (h:RepV C.ty w ok v d) (hf:GD.fits s d=true):v.oneCell'=true:=by
 cases h<;>first |rfl |(cases s<;>simp[GD.fits]at hf)
theorem mE (h:Rel C tm st G w) (hE:E.ty=C.ty) (hV:∀ id o,V id=o→o≠ .dead→st.os[id]? =some o) {t:TypeId} {x y:Operand} {k:Vk} {id i off:Nat} {d:D} {v:D} {ws:Wr}
  (aW:o.op= .store t x y) (hs:szOk P t k=true) (hx:∀ e nb l el,st.os[id]? =some (.arr e nb l)→C.ty e=some el→i<l.length∧∃ ad c,(G id).1= .slice (some ad) l.length c∧ρ x= .pointer (some ⟨ad.block,ad.off+(i*el.ks.length+off),none⟩))
  (hy:RepT C st.os G w (ρ y) d) (he:fc KS E k V id i off d=some (v,ws)):co C tm st G w v ws ((execOp ρ o).run P w):=by
 unfold fc at he
 simp only at he
 split at he
 ·rename_i e nb l hid
  have hid':=hV id _ hid (by simp)
  split at he
  ·rename_i el hel
   rw[hE]at hel
   split at he
   ·rename_i jd
    simp only[zq3]at jd
    obtain⟨⟨⟨c1,c2⟩,c3⟩,c4⟩:=jd
    cases he
    obtain⟨hlt,ad,c,hG1,hptr⟩:=hx e nb l el hid' hel
    obtain⟨hz,hrep⟩:=xX hV h (.refl st.os) hy (fits_rp c1)
    have Hm:(wrL st.os (frz V d).2)[id]? =some (.arr e nb l):=by rw[tz _ _ c4];exact hid'
    rcases row_at (hz.rel.os id _ Hm) hel with⟨h0,_⟩ |⟨g,cap,cur,ct,hr⟩
    ·omega
    ·obtain⟨s1,s2⟩:=tw hrep c1
     obtain⟨t1,t2,t3⟩:=oU hE c2 hel
     obtain⟨k9,iV,lc,_,_⟩:=dv hs
     have hadr:=hr.g1
     rw[hG1]at hadr
     simp only[Value.slice.injEq,zq5,true_and]at hadr
     obtain⟨rfl,rfl⟩:=hadr
     simp only[Nat.zero_add]at hptr
     have oX:i*el.ks.length+off+(ρ y).cells.toList.length≤cur.size:=by
      rw[hr.cs]
      have e1:(i+1)*el.ks.length≤c*el.ks.length:=Nat.mul_le_mul_right _ (by have:=hr.nc;omega)
      rw[Nat.add_mul]at e1
      simp
      omega
     have LM:=Vk.cg c1
     have Cc:∀ u∈(ρ y).cells.toList,u.oneCell'=true:=by
      intro u hu
      obtain⟨j,hj,rfl⟩:=List.getElem_of_mem hu
      have hj':j<(ρ y).cells.size:=by simpa using hj
      have Hn:j<k.ks.length:=by omega
      have:=s2 j Hn
      have e1:(ρ y).cells.getD j undef=(ρ y).cells.toList[j]:=by simp[zq2,hj']
      rw[e1]at this
      exact ld this (LM j k.ks[j] (zq4 Hn))
     have hst:=run_storeCells_at P g (i*el.ks.length+off) ct (ρ y).cells.toList 0 cur w hr.hh (by simpa using oX) Cc
     obtain⟨g1,g2⟩:=oW oX
     have LN:el.fits (l.getD i .undef)=true:=hr.fit _ (mem_getD hlt)
     obtain⟨p1,p2⟩:=wi hE hel c2 c3 LN c1
     have hrel:=zD hz.rel Hm hel hr (l':=l.set i (f9 k el (l.getD i .undef) off (frz V d).1)) g1 (by simp) (fun x hx=>by
      rcases List.mem_or_eq_of_mem_set hx with h |h
      ·exact hr.fit _ h
      ·rw[h];exact p1) (fun i' j hi' hj=>by
      rw[g2 _ (by rw[hr.cs];exact idx_lt hi' hj hr.nc)]
      have LO:(ρ y).cells.toList.length=k.ks.length:=by simpa using s1
      rw[LO]
      by_cases Ji:i'=i
      ·subst Ji
       have e2:(l.set i' (f9 k el (l.getD i' .undef) off (frz V d).1)).getD i' .undef=f9 k el (l.getD i' .undef) off (frz V d).1:=by simp[zq1,hlt]
       rw[e2,p2 j hj]
       by_cases DV:off≤j∧j<off+k.ks.length
       ·rw[if_pos (by omega),if_pos DV]
        have:=s2 (j - off) (by omega)
        rw[show i'*el.ks.length+j - (i'*el.ks.length+off)=j - off by omega]
        simpa[zq1,zq2]using this
       ·rw[if_neg (by omega),if_neg DV]
        exact hr.rep i' j hi' hj
      ·have e2:(l.set i (f9 k el (l.getD i .undef) off (frz V d).1)).getD i' .undef=l.getD i' .undef:=by
        simp[zq1,List.getElem?_set,show¬i=i' from fun e=>Ji e.symm]
       rw[e2,if_neg ?_]
       ·exact hr.rep i' j hi' hj
       ·rintro⟨q1,q2⟩
        have:=FS (i:=i') (i':=i) (j:=j) (j':=off+(i'*el.ks.length+j - (i*el.ks.length+off))) hj (by omega) (by omega)
        exact Ji this.1)
     refine⟨undef,_,G,.inr ⟨rfl, ?_⟩,by rw[bO,iB];exact hrel,⟨#[],rfl,rfl,fun j hj=>by simp at hj⟩,fun i hi=>by simp[refsD]at hi,fun _ _=>rfl⟩
     have hsize:(ρ y).cells.size=k9.size:=by omega
     simp[execOp,aW,Instr.storeAt,Instr.sureAddr,hptr,storeVar,run_sizeOf iV,hsize,hst]
   ·cases he
  ·cases he
 ·cases he
end
end
section
section
variable {C:Cx} {P:Program} {E:Env} {tm:Array Value} {st:St} {G:Gh} {w:World} {ρ:Operand→Value} {o:Oper} {V:Vw}
theorem wj {s:Sk} {v:D} (h:fits s v=true):cellsOf v=[v]∧[v].all cell0=true:=by
 cases s<;>cases v<;>first |exact⟨rfl,rfl⟩ |(simp[fits]at h)
theorem wk (s:Sk) (lo n i:Nat) (v:D) (hv:fits s v=true):∀ (cs:List D) (j:Nat),(∀ p,p<cs.length→lo≤j+p→j+p<lo+n→fits s (cs.getD p .undef)=true)→i<n→
  tc s lo n i v cs j=if j≤lo+i then cs.set (lo+i - j) v else cs
 |[],j,_,_=>by simp[tc]
 |c::cs,j,hf,hi=>by
  have ih:=wk s lo n i v hv cs (j+1) (fun p hp h1 h2=>by have:=hf (p+1) (by simpa using hp) (by omega) (by omega);simpa using this) hi
  unfold tc
  rw[ih]
  have h0:=hf 0 (by simp)
  simp only[Nat.add_zero,List.getD_cons_zero]at h0
  cases hb:(Nat.ble lo j&&Nat.blt j (lo+n))with
  |true=>
   simp only[zq3,Nat.ble_eq,Nat.blt_eq]at hb
   by_cases e:lo+i=j
   ·have e':Nat.beq (lo+i) j=true:=by subst e;exact Nat.beq_refl _
    simp only[e',cond_true,eta_fits hv]
    rw[if_neg (by omega),if_pos (by omega),show lo+i - j=0 by omega]
    rfl
   ·have e':Nat.beq (lo+i) j=false:=by
     cases h:Nat.beq (lo+i) j with
     |false=>rfl
     |true=>exact absurd (Nat.eq_of_beq_eq_true h) e
    simp only[e',cond_false,eta_fits (h0 hb.1 hb.2)]
    by_cases h1:j≤lo+i
    ·rw[if_pos (by omega),if_pos h1,show lo+i - j=(lo+i - (j+1))+1 by omega]
     rfl
    ·rw[if_neg (by omega),if_neg h1]
  |false=>
   simp only[]
   have hne: ¬lo+i=j:=by
    intro e
    simp only[Bool.and_eq_false_iff]at hb
    rcases hb with hb |hb
    ·have:Nat.ble lo j=true:=by rw[Nat.ble_eq];omega
     rw[hb]at this;cases this
    ·have:Nat.blt j (lo+n)=true:=by rw[Nat.blt_eq];omega
     rw[hb]at this;cases this
   by_cases h1:j≤lo+i
   ·rw[if_pos (by omega),if_pos h1,show lo+i - j=(lo+i - (j+1))+1 by omega]
    rfl
   ·rw[if_neg (by omega),if_neg h1]
theorem yc (h:Rel C tm st G w) (hE:E.ty=C.ty) (hV:∀ id o,V id=o→o≠ .dead→st.os[id]? =some o) {t:TypeId} {x y:Operand} {k:Vk} {d1 d v:D} {ws:Wr}
  (aW:o.op= .store t x y) (hs:szOk P t k=true) (hx:RepT C st.os G w (ρ x) d1) (hy:RepT C st.os G w (ρ y) d∧∀ id,id∈refsD d→isDead (st.os.getD id .gone)=false)
  (he:kX KS E k V [d1,d]=some (v,ws)):co C tm st G w v ws ((execOp ρ o).run P w):=by
 unfold kX at he
 split at he
 ·rename_i id lo n i v0 heq
  simp only[List.cons.injEq,and_true]at heq
  obtain⟨rfl,rfl⟩:=heq
  split at he
  ·rename_i cs hid
   split at he
   ·rename_i s h1 h2
    split at he
    ·rename_i hc
     rw[zq3]at hc
     obtain⟨c1,c2⟩:=hc
     cases he
     obtain⟨hi,hp⟩:=zz hx
     obtain⟨w1,w2⟩:=m8 c2 hi
     simp only[zq3,Nat.ble_eq]at c2
     have hfit:∀ p,p<cs.length→lo≤0+p→0+p<lo+n→fits s (cs.getD p .undef)=true:=by
      intro p E2 yd M4
      have:=(m8 (s:=s) (lo:=lo) (n:=n) (i:=p - lo) (cs:=cs) (by simp only[zq3,Nat.ble_eq];exact c2) (by omega)).2
      rwa [show lo+(p - lo)=p by omega]at this
     have xW:=wj c1
     have DD:bD cs (lo+i) (cellsOf d)=tc s lo n i d cs 0:=by
      rw[wk s lo n i d c1 cs 0 hfit hi,if_pos (by omega),xW.1]
      rfl
     have KK:k.ks.length=1:=by rw[h2];rfl
     have:=mD h hV aW hs hp hy hid (by rw[xW.1];exact xW.2) (by rw[xW.1,KK];rfl) (by rw[KK];omega)
     rw[DD]at this
     exact this
    ·cases he
   ·cases he
  ·cases he
 ·rename_i e id n i off v0 heq
  simp only[List.cons.injEq,and_true]at heq
  obtain⟨rfl,rfl⟩:=heq
  refine mE h hE hV aW hs (fun e2 nb l el hid hel=> ?_) hy.1 he
  have:=hx.2
  simp only[ElaAt,oAt_of hid,oSh]at this
  obtain⟨rfl,rfl,h1,ad,cap,k2,h2,h3,h4⟩:=this
  rw[hel]at h2
  cases h2
  exact⟨h1,ad,cap,h3,h4⟩
 ·rename_i e id o1 n i off v0 heq
  simp only[List.cons.injEq,and_true]at heq
  obtain⟨rfl,rfl⟩:=heq
  refine mE h hE hV aW hs (fun e2 nb l el hid hel=> ?_) hy.1 he
  have:=hx.2
  simp only[ElaAt,oAt_of hid,oSh]at this
  obtain⟨rfl,h0,h1,ad,cap,k2,h2,h3,h4⟩:=this
  rw[hel]at h2
  cases h2
  exact⟨by omega,ad,cap,h3,h4⟩
 ·rename_i id off v0 heq
  simp only[List.cons.injEq,and_true]at heq
  obtain⟨rfl,rfl⟩:=heq
  split at he
  ·rename_i cs hid
   split at he
   ·rename_i hc
    simp only[zq3,beq_iff_eq,Nat.ble_eq]at hc
    cases he
    exact mD h hV aW hs hx hy hid hc.1.1 hc.1.2 hc.2
   ·cases he
  ·cases he
 ·cases he
theorem oY {a:Option Addr} {c s:Nat} {l h:Nat} (hsp:∀ x,a=some x→c≠0→x.spot=none) (hl:l≤c):
  ∃ a',sliced a l h c s= .slice a' (h - l) (c - l)∧a'.isNone=a.isNone∧(∀ x,a'=some x→c - l≠0→x.spot=none)∧(l<c→a'=a.map (fun x=>⟨x.block,x.off+l*s,none⟩)):=by
 unfold sliced
 by_cases e:c=l
 ·rw[if_pos e]
  exact⟨a,rfl,rfl,fun x hx hn=>by omega,fun h=>by omega⟩
 ·rw[if_neg e]
  refine⟨_,rfl,by cases a<;>rfl,fun x hx=> ?_,fun _=> ?_⟩
  ·cases a with
   |none=>cases hx
   |some ad=>
    simp only[Option.map_some,zq5]at hx
    rw[addr_add ad _ (hsp ad rfl (by omega))]at hx
    subst hx;exact fun _=>rfl
  ·cases a with
   |none=>rfl
   |some ad=>
    simp only[Option.map_some,zq5]
    exact addr_add ad _ (hsp ad rfl (by omega))
theorem uC {t e:TypeId} (ht:xV P t e=true) {k:Vk} (hs:szOk P e k=true) {a:Option Addr} {n c:Nat} {l h:Int}
  {ol oh:Option Value} (E3:(ol=none∧l=0)∨∃ kk,ol=some (.int kk l)) (E4:(oh=none∧h=(n:Nat))∨∃ kk,oh=some (.int kk h))
  (hnc:n≤c) (h0:0≤l) (h1:l≤h) (h2:h≤c) (w:World):
  (Instr.sliceAt t (.slice a n c) ol oh none).run P w= .ok (sliced a l.toNat h.toNat c k.ks.length) w:=by
 obtain⟨k9,iV,lc,_,_⟩:=dv hs
 have hel:P.elem t=e:=by simp[Program.elem,jt ht]
 have Ce:P.underlying t=some (.slice (P.elem t)):=by rw[hel];exact jt ht
 have uD:(sizeOf (P.elem t)).run P w= .ok k.ks.length w:=by rw[hel,run_sizeOf iV,lc]
 rw[run_sliceAt_slice w t _ _ _ _ Ce]
 rcases E3 with⟨rfl,rfl⟩ |⟨kl,rfl⟩<;>rcases E4 with⟨rfl,rfl⟩ |⟨kh,rfl⟩
 ·rw[run_slice_all w t a n c Ce,uD];rfl
 ·rw[run_slice_h w t a n c Ce _ _ (by omega) h2,uD];rfl
 ·rw[run_slice_l w t a n c Ce _ _ h0 h1,uD];rfl
 ·rw[run_slice_lh w t a n c Ce _ _ _ _ h0 h1 h2,uD];rfl
theorem Cf {t:TypeId} (ht:vU P t=true) {s:ByteArray} {l h:Int}
  {ol oh:Option Value} (E3:(ol=none∧l=0)∨∃ kk,ol=some (.int kk l)) (E4:(oh=none∧h=(s.size:Nat))∨∃ kk,oh=some (.int kk h))
  (h0:0≤l) (h1:l≤h) (h2:h≤s.size) (w:World):
  (Instr.sliceAt t (.string s) ol oh none).run P w= .ok (.string (s.extract l.toNat h.toNat)) w:=by
 rw[run_sliceAt_string w t _ _ _ _ (lZ ht)]
 rcases E3 with⟨rfl,rfl⟩ |⟨kl,rfl⟩<;>rcases E4 with⟨rfl,rfl⟩ |⟨kh,rfl⟩
 ·simp[Instr.slice,run_underlying (lZ ht),Instr.sliceBounds]
 ·simp[Instr.slice,run_underlying (lZ ht),Instr.sliceBounds,run_sliceBound,h1,h2]
 ·have e1:=run_sliceBound (P:=P) w kl l s.size .sliceB h0 h1
  simp[Instr.slice,run_underlying (lZ ht),Instr.sliceBounds,e1]
 ·have e1:=run_sliceBound (P:=P) w kl l h.toNat .sliceB h0 (by omega)
  have e2:=run_sliceBound (P:=P) w kh h s.size .sliceAlen (by omega) h2
  simp[Instr.slice,run_underlying (lZ ht),Instr.sliceBounds,e1,e2]
theorem fQ {os:List Obj} {v:Value} {d:D} {n:Nat} (hv:RepT C os G w v d) (hn:jE d=some n):∃ a c,v= .slice a n c∧n≤c∧∀ x,a=some x→c≠0→x.spot=none:=by
 obtain⟨a,c,e1,h1,h2,h3⟩:=uw hv hn
 exact⟨a,c,e1,h1,h3⟩
theorem zE {os:List Obj} {id:Nat} {e:TypeId} {nb:Bool} {l:List D} (ho:ObjRel C os G w id (.arr e nb l)):qO (G id).1 l.length:=by
 obtain⟨k,xs,_,⟨_,h3⟩,_⟩:=ho
 rcases h3 with⟨_,h0,a,h1,h2,h4⟩ |⟨h2,g,cap,cur,t,_,h1,_,h4,_⟩
 ·exact⟨a,0,by rw[h1,h0],by omega,fun _=>h0,h4⟩
 ·exact⟨_,cap,h1,h4,(fun h=>by cases h),(fun x hx=>by cases hx;exact fun _=>rfl)⟩
theorem zF {os:List Obj} {id:Nat} {e:TypeId} {nb:Bool} {l:List D} (ho:ObjRel C os G w id (.fro e nb l)):qO (G id).1 l.length:=by
 simp only[ObjRel]at ho
 generalize (G id).1=u at ho
 cases ho with
 |slnil e=>exact⟨none,0,rfl,Nat.le_refl _,fun _=>rfl,(fun x hx=>by cases hx)⟩
 |sl e ad c els k cs hk hsp hc=>exact⟨some ad,c,rfl,hc,(fun h=>by cases h),(fun x hx=>by cases hx;exact hsp)⟩
theorem nJ (h:Rel C tm st G w) (hV:∀ id o,V id=o→o≠ .dead→st.os[id]? =some o) (hT:vW C P) {t:TypeId} {x:Operand} {te:Option TypeId} {d v:D} {ws:Wr} {l hh:Int} {n:Nat}
  (pF:(match te with |some e=>xV P t e&&(C.ty e).isSome |none=>vU P t)=true) (mu:te=vQ d)
  (hx:RepT C st.os G w (ρ x) d∧∀ id,id∈refsD d→isDead (st.os.getD id .gone)=false) {ol oh:Option Value} (hn:Ap d=some n)
  (E3:(ol=none∧l=0)∨∃ kk,ol=some (.int kk l)) (E4:(oh=none∧hh=(n:Nat))∨∃ kk,oh=some (.int kk hh)) (he:sM KS l hh V d=some (v,ws)) {r:Result Next}
  (hr:∀ u,(Instr.sliceAt t (ρ x) ol oh none).run P w= .ok u w→r= .ok (.value u) w):co C tm st G w v ws r:=by
 cases d with
 |str s=>
  simp only[sM]at he
  split at he
  ·rename_i hb
   cases he
   simp only[vQ]at mu
   subst mu
   simp only[Ap,zq5]at hn
   subst hn
   have e1:=eH hx.1
   exact vX h (hr _ (by rw[e1];exact Cf pF E3 E4 hb.1 hb.2.1 hb.2.2 w))
  ·cases he
 |sl e nb els=>
  simp only[sM]at he
  split at he
  ·rename_i hb
   cases he
   simp only[vQ]at mu
   subst mu
   simp only[zq3]at pF
   simp only[Ap]at hn
   obtain⟨a,c,e1,hnc,hsp⟩:=fQ hx.1 hn
   simp only[jE,zq5]at hn
   subst hn
   obtain⟨k,hk⟩:=Option.isSome_iff_exists.1 pF.2
   have fa:=uC pF.1 (hT e k hk).1 (a:=a) (c:=c) E3 E4 hnc hb.1 hb.2.1 (by omega) w
   obtain⟨a',q1,q2,q3,q4⟩:=oY (a:=a) (c:=c) (s:=k.ks.length) (l:=l.toNat) (h:=hh.toNat) hsp (by omega)
   have oI:=hx.1
   rw[e1]at oI hr
   rw[q1]at fa
   refine .val h (hr _ fa) ?_ (fun id hid=>by simp[refsD,refs1,refs0,refsb]at hid)
   exact RepV.sub oI hk (by omega) q2 q3 q4
  ·cases he
 |own e id m=>
  simp only[sM]at he
  split at he
  ·rename_i hb
   cases he
   simp only[vQ]at mu
   subst mu
   simp only[zq3]at pF
   simp only[Ap]at hn
   obtain⟨a,c,e1,hnc,hsp⟩:=fQ hx.1 hn
   simp only[jE,zq5]at hn
   subst hn
   obtain⟨k,hk⟩:=Option.isSome_iff_exists.1 pF.2
   have fa:=uC pF.1 (hT e k hk).1 (a:=a) (c:=c) E3 E4 hnc hb.1 hb.2.1 (by omega) w
   obtain⟨a',q1,q2,q3,q4⟩:=oY (a:=a) (c:=c) (s:=k.ks.length) (l:=l.toNat) (h:=hh.toNat) hsp (by omega)
   have oI:=hx.1
   rw[e1]at oI hr
   rw[q1]at fa
   have Ho:=uw oI rfl
   refine .val h (hr _ fa) ⟨⟨a',c - l.toNat,rfl,by omega,(fun h=> ?_),q3⟩, ?_⟩ hx.2
   ·obtain⟨a0,c0,f1,f2,f3,_⟩:=Ho
    cases f1
    rw[h]at q2
    have:=f3 (by cases a<;>simp at q2⊢)
    omega
   ·split
    ·rename_i e' m' ho
     simp only[RepT,RepT1,RepT0,ho]at oI
     obtain⟨_,rfl,rfl,h3⟩:=oI
     exact⟨rfl,by omega,a,c,k,hk,h3.symm,a',rfl,q2,q3,q4⟩
    ·trivial
  ·cases he
 |ownv e id o1 m=>
  have GQ:=hx.1.2
  simp only[sM]at he
  have main:∀ (nb:Bool) (els:List D) (e2:TypeId),oAt st.os id= .row e2 els.length→qO (G id).1 els.length→(if 0≤l∧l≤hh∧((o1:Nat):Int)+hh≤(els.length:Nat)then KS (.ownv e id (o1+l.toNat) (hh.toNat - l.toNat)) []else none)=some (v,ws)→co C tm st G w v ws r:=by
   intro nb els e2 hrow hlen he
   split at he
   ·rename_i hb
    cases he
    simp only[vQ]at mu
    subst mu
    simp only[zq3]at pF
    simp only[Ap]at hn
    obtain⟨a,c,e1,hnc,hsp⟩:=fQ hx.1 hn
    simp only[jE,zq5]at hn
    subst hn
    obtain⟨k,hk⟩:=Option.isSome_iff_exists.1 pF.2
    have oI:=hx.1
    rw[e1]at oI hr
    simp only[RepT,RepT1,RepT0,hrow]at oI
    obtain⟨hlv,rfl,h2,a0,c0,k0,h3,h4,a1,h5,h6,h7,h8⟩:=oI
    rw[hk]at h3
    cases h3
    simp only[Value.slice.injEq,true_and]at h5
    obtain⟨rfl,rfl⟩:=h5
    have hc0:els.length≤c0∧(∀ x,a0=some x→c0≠0→x.spot=none)∧(a0=none→els.length=0):=by
     obtain⟨a9,c9,f1,f2,f3,f4⟩:=hlen
     rw[h4]at f1
     cases f1
     exact⟨f2,f4,f3⟩
    have fa:=uC pF.1 (hT e k hk).1 (a:=a) (c:=c0 - o1) E3 E4 hnc hb.1 hb.2.1 (by omega) w
    obtain⟨a',q1,q2,q3,q4⟩:=oY (a:=a) (c:=c0 - o1) (s:=k.ks.length) (l:=l.toNat) (h:=hh.toNat) hsp (by omega)
    rw[q1]at fa
    refine .val h (hr _ fa) ⟨⟨a',c0 - o1 - l.toNat,rfl,by omega,(fun h=> ?_),q3⟩, ?_⟩ hx.2
    ·rw[h]at q2
     have:=hc0.2.2 (by cases a0<;>cases a<;>simp at q2 h6⊢)
     omega
    ·simp only[hrow]
     refine⟨trivial,by omega,a0,c0,k,hk,h4,a',by rw[Nat.sub_sub],by rw[q2,h6],(by rw[←Nat.sub_sub];exact q3),fun hlt=> ?_⟩
     have z1:=q4 (by omega)
     have z2:=h8 (by omega)
     rw[z1,z2]
     cases a0 with
     |none=>rfl
     |some ad=>simp[Nat.add_mul,Nat.add_assoc]
   ·cases he
  split at he
  ·rename_i e2 nb els hid
   have:=hV id _ hid (by simp)
   exact main nb els e2 (by rw[oAt_of this];rfl) (zE (h.os id _ this)) he
  ·rename_i e2 nb els hid
   have:=hV id _ hid (by simp)
   exact main nb els e2 (by rw[oAt_of this];rfl) (zF (h.os id _ this)) he
  ·cases he
 |_=>simp[sM]at he
theorem Hp {α β:Type} {f:α→β} {l:List α} {x:β} (h:l.map f=[x]):∃ b,l=[b]∧f b=x:=by
 match l,h with
 |[b],h=>exact⟨b,rfl,by simpa using h⟩
theorem Jj {α β:Type} {f:α→β} {l:List α} {x y:β} (h:l.map f=[x,y]):∃ b c,l=[b,c]∧f b=x∧f c=y:=by
 match l,h with
 |[b,c],h=>exact⟨b,c,rfl,by simpa using h⟩
theorem Hq {α β:Type} {f:α→β} {l:List α} {x y z:β} (h:l.map f=[x,y,z]):∃ b c d,l=[b,c,d]∧f b=x∧f c=y∧f d=z:=by
 match l,h with
 |[b,c,d],h=>exact⟨b,c,d,rfl,by simpa using h⟩
theorem AG (h:Rel C tm st G w) (hV:∀ id o,V id=o→o≠ .dead→st.os[id]? =some o) (hT:vW C P) {t e:TypeId} {x:Operand} {d v:D} {ws:Wr} (ht:xV P t e=true) (pF:(C.ty e).isSome=true) (mu:some e=vQ d)
  (hx:RepT C st.os G w (ρ x) d) {k1 k2 k3:IntKind} (he:nz KS V d=some (v,ws)) {r:Result Next}
  (hr:∀ u,(Instr.sliceAt t (ρ x) (some (.int k1 0)) (some (.int k2 0)) (some (.int k3 0))).run P w= .ok u w→r= .ok (.value u) w):co C tm st G w v ws r:=by
 obtain⟨k,hk⟩:=Option.isSome_iff_exists.1 pF
 obtain⟨k9,iV,lc,_,_⟩:=dv (hT e k hk).1
 have hel:P.elem t=e:=by simp[Program.elem,jt ht]
 have Ce:P.underlying t=some (.slice (P.elem t)):=by rw[hel];exact jt ht
 have uD:(sizeOf (P.elem t)).run P w= .ok k.ks.length w:=by rw[hel,run_sizeOf iV,lc]
 have key:∀ (a:Option Addr) (n c:Nat) (nb:Bool),ρ x= .slice a n c→a.isNone=nb→(∀ y,a=some y→c≠0→y.spot=none)→co C tm st G w (.zs e nb) [] r:=by
  intro a n c nb e1 e2 e3
  have hrun:(Instr.sliceAt t (ρ x) (some (.int k1 0)) (some (.int k2 0)) (some (.int k3 0))).run P w= .ok (.slice a 0 0) w:=by
   rw[e1,run_sliceAt_slice w t _ _ _ _ Ce,run_slice_lhm w t a n c Ce _ _ _ _ _ _ (by omega) (by omega) (by omega) (by omega),uD]
   simp[sliced]
  refine .val h (hr _ hrun) ?_ (fun id hid=>by simp[refsD,refs1,refs0,refsb]at hid)
  cases a with
  |none=>simp at e2;subst e2;exact .zsnil e
  |some ad=>simp at e2;subst e2;exact .zs e ad k hk (fun h=>absurd rfl h)
 cases d with
 |sl e2 nb els=>
  simp only[nz]at he
  cases he
  simp only[vQ,zq5]at mu
  subst mu
  obtain⟨a,c,e1,_,hsp⟩:=fQ hx rfl
  obtain⟨a1,n1,c1,e2,e3⟩:=ux h hV hx (b:=nb) rfl
  rw[e1]at e2
  cases e2
  exact key a _ c nb e1 e3 hsp
 |own e2 id m=>
  simp only[vQ,zq5]at mu
  subst mu
  obtain⟨a,c,e1,_,hsp⟩:=fQ hx rfl
  have tB:=hx.2
  simp only[nz]at he
  split at he
  ·rename_i e3 nb els hid
   cases he
   have hid':=hV id _ hid (by simp)
   obtain⟨a1,n1,c1,e4,e5⟩:=ux h hV hx (b:=nb) (by simp[vM,hid])
   rw[e1]at e4
   cases e4
   simp only[oAt_of hid',oSh]at tB
   obtain⟨rfl,_⟩:=tB
   exact key a _ c nb e1 e5 hsp
  ·rename_i e3 nb els hid
   cases he
   have hid':=hV id _ hid (by simp)
   obtain⟨a1,n1,c1,e4,e5⟩:=ux h hV hx (b:=nb) (by simp[vM,hid])
   rw[e1]at e4
   cases e4
   simp only[oAt_of hid',oSh]at tB
   obtain⟨rfl,_⟩:=tB
   exact key a _ c nb e1 e5 hsp
  ·cases he
 |_=>simp[nz]at he
theorem ye (h:Rel C tm st G w) (hV:∀ id o,V id=o→o≠ .dead→st.os[id]? =some o) (hT:vW C P) (hv:HV C st G w ρ) {t:TypeId} {x:Operand} {ol oh om:Option Operand} {te:Option TypeId} {lo hi mx:Bool} {as:List Opd} {v:D} {ws:Wr}
  (aW:o.op= .slice t x ol oh om) (hl:ol.isSome=lo) (hh:oh.isSome=hi) (hm:om.isSome=mx) (LP:mx=true→(lo&&hi)=true)
  (hc:eB ([x]++nE ol++nE oh++nE om) as=true) (pF:(match te with |some e=>xV P t e&&(C.ty e).isSome |none=>vU P t)=true)
  (he:jW KS te lo hi mx V (as.map (Opd.val st.ts))=some (v,ws)):co C tm st G w v ws ((execOp ρ o).run P w):=by
 cases as with
 |nil=>simp[jW]at he
 |cons a as=>
  simp only[List.map_cons,jW]at he
  split at he
  ·cases he
  ·rename_i mu
   simp only[beq_iff_eq]at mu
   have hca:bM x a=true∧eB (nE ol++nE oh++nE om) as=true:=by
    simpa[eB,List.append_assoc]using hc
   have hx:=hv x a hca.1
   have hrest:=hca.2
   have one:∀ {y:Operand} {b:Opd} {kk:IntKind} {z:Int},bM y b=true→b.val st.ts= .int kk z→ρ y= .int kk z:=fun hc he=>by
    have:=(hv _ _ hc).1
    rw[he]at this
    exact bF this
   cases om with
   |some m=>
    simp only[Option.isSome_some]at hm
    subst hm
    have Hr:=LP rfl
    simp only[zq3]at Hr
    obtain⟨rfl,rfl⟩:=Hr
    obtain⟨y1,rfl⟩:=Option.isSome_iff_exists.1 hl
    obtain⟨y2,rfl⟩:=Option.isSome_iff_exists.1 hh
    simp only at he
    split at he
    ·rename_i k1 i1 k2 i2 k3 i3 heq
     split at he
     ·rename_i hz
      obtain⟨rfl,rfl,rfl⟩:=hz
      obtain⟨b1,b2,b3,rfl,g1,g2,g3⟩:=Hq heq
      simp only[nE,List.cons_append,List.nil_append,eB,zq3,Bool.and_true]at hrest
      have f1:=one hrest.1 g1
      have f2:=one hrest.2.1 g2
      have f3:=one hrest.2.2 g3
      cases te with
      |none=>
       generalize a.val st.ts=d at mu he
       cases d<;>simp[vQ]at mu<;>simp[nz]at he
      |some e=>
       simp only[zq3]at pF
       refine AG h hV hT pF.1 pF.2 mu hx.1 he (k1:=k1) (k2:=k2) (k3:=k3) (fun u hu=> ?_)
       simp[execOp,aW,f1,f2,f3,hu]
     ·split at he
      ·rename_i n hn
       split at he
       ·rename_i hb
        cases he
        obtain⟨b1,b2,b3,rfl,g1,g2,g3⟩:=Hq heq
        simp only[nE,List.cons_append,List.nil_append,eB,zq3,Bool.and_true]at hrest
        have f1:=one hrest.1 g1
        have f2:=one hrest.2.1 g2
        have f3:=one hrest.2.2 g3
        obtain⟨a0,c0,e1,hnc,_⟩:=fQ hx.1 hn
        cases te with
        |none=>
         generalize a.val st.ts=d at mu hn
         cases d<;>simp[vQ]at mu<;>simp[jE]at hn
        |some e=>
         simp only[zq3]at pF
         obtain⟨k,hk⟩:=Option.isSome_iff_exists.1 pF.2
         obtain⟨k9,iV,lc,_,_⟩:=dv (hT e k hk).1
         have hel:P.elem t=e:=by simp[Program.elem,jt pF.1]
         have Ce:P.underlying t=some (.slice (P.elem t)):=by rw[hel];exact jt pF.1
         have uD:(sizeOf (P.elem t)).run P w= .ok k.ks.length w:=by rw[hel,run_sizeOf iV,lc]
         have hrun:(Instr.sliceAt t (ρ x) (some (.int k1 i1)) (some (.int k2 i2)) (some (.int k3 i3))).run P w= .ok (sliced a0 i1.toNat i2.toNat i3.toNat k.ks.length) w:=by
            rw[e1,run_sliceAt_slice w t _ _ _ _ Ce,run_slice_lhm w t a0 n c0 Ce _ _ _ _ _ _ (by omega) (by omega) (by omega) (by omega),uD]
            rfl
         refine .val h (v':=sliced a0 i1.toNat i2.toNat i3.toNat k.ks.length) ?_ trivial (fun id hid=>by simp[refsD,refs1,refs0,refsb]at hid)
         simp[execOp,aW,f1,f2,f3,hrun]
       ·cases he
      ·cases he
    ·cases he
   |none=>
    simp only[Option.isSome_none]at hm
    subst hm
    simp only at he
    split at he
    ·rename_i n hn
     split at he
     ·rename_i l1 h1 hb
      unfold BW at hb
      split at hb
      ·rename_i heq
       simp only[zq5,Prod.mk.injEq]at hb
       obtain⟨rfl,rfl⟩:=hb
       cases ol<;>cases oh<;>simp at hl hh
       exact nJ h hV hT pF mu hx hn (.inl ⟨rfl,rfl⟩) (.inl ⟨rfl,rfl⟩) he (fun u hu=>by simp[execOp,aW,hu])
      ·rename_i kk i1 heq
       simp only[zq5,Prod.mk.injEq]at hb
       obtain⟨rfl,rfl⟩:=hb
       cases ol<;>cases oh<;>simp at hl hh
       rename_i y1
       obtain⟨b1,rfl,g1⟩:=Hp heq
       ·simp only[nE,List.cons_append,List.nil_append,List.append_nil,eB,Bool.and_true]at hrest
        have f1:=one hrest g1
        exact nJ h hV hT pF mu hx hn (.inr ⟨kk,rfl⟩) (.inl ⟨rfl,rfl⟩) he (fun u hu=>by simp[execOp,aW,f1,hu])
      ·rename_i kk i1 heq
       simp only[zq5,Prod.mk.injEq]at hb
       obtain⟨rfl,rfl⟩:=hb
       cases ol<;>cases oh<;>simp at hl hh
       rename_i y1
       obtain⟨b1,rfl,g1⟩:=Hp heq
       ·simp only[nE,List.cons_append,List.nil_append,List.append_nil,eB,Bool.and_true]at hrest
        have f1:=one hrest g1
        exact nJ h hV hT pF mu hx hn (.inl ⟨rfl,rfl⟩) (.inr ⟨kk,rfl⟩) he (fun u hu=>by simp[execOp,aW,f1,hu])
      ·rename_i LQ i1 LR i2 heq
       simp only[zq5,Prod.mk.injEq]at hb
       obtain⟨rfl,rfl⟩:=hb
       cases ol<;>cases oh<;>simp at hl hh
       rename_i y1 y2
       obtain⟨b1,b2,rfl,g1,g2⟩:=Jj heq
       ·simp only[nE,List.cons_append,List.nil_append,List.append_nil,eB,Bool.and_true,zq3]at hrest
        have f1:=one hrest.1 g1
        have f2:=one hrest.2 g2
        exact nJ h hV hT pF mu hx hn (.inr ⟨LQ,rfl⟩) (.inr ⟨LR,rfl⟩) he (fun u hu=>by simp[execOp,aW,f1,f2,hu])
      ·cases hb
     ·cases he
    ·cases he
end
end
section
section
variable {C:Cx} {P:Program} {E:Env} {tm:Array Value} {st:St} {G:Gh} {w:World} {ρ:Operand→Value} {o:Oper} {V:Vw}
structure Src (P:Program) (w:World) (size:Nat) (x:Value) (m:Nat) (bX:List Value):Prop where
 len:∀ w',(Builtin.lenOf x).run P w'= .ok m w'
 first:∀ n w',n≤m→w'.heap=w.heap→(Builtin.firstCells size n x).run P w'= .ok (bX.take (n*size)).toArray w'
 nl:bX.length=m*size
 one:∀ u,u∈bX→u.oneCell'=true
theorem AH {w w':World} (h:w'.heap=w.heap) (a:Addr):w'.cell? a=w.cell? a:=by simp[World.cell?,h]
theorem jI {size:Nat} {ad:Addr} {m c:Nat} {bX:List Value} (hl:bX.length=m*size) (hn:∀ j u,bX[j]? =some u→w.cell? (ad.add j)=some u) (h1:∀ u∈bX,u.oneCell'=true):
  Src P w size (.slice (some ad) m c) m bX:=by
 refine⟨fun w'=>by simp[Builtin.lenOf],fun n w' hnm hw=> ?_,hl,h1⟩
 refine run_firstCells_some w' size n ad m c _ ?_ (fun j v hv=> ?_)
 ·have:n*size≤m*size:=Nat.mul_le_mul_right _ hnm
  simp
  omega
 ·rw[AH hw]
  rw[List.getElem?_take]at hv
  split at hv
  ·exact hn j v hv
  ·cases hv
theorem lf {size:Nat}:Src P w size (.slice none 0 0) 0 []:=
 ⟨fun w'=>by simp[Builtin.lenOf],fun n w' _ _=>by simp[Builtin.firstCells],by rw[Nat.zero_mul];rfl,fun u hu=>by cases hu⟩
theorem pJ (s:ByteArray):s.data.toList.length=s.size:=rfl
theorem DX {s:ByteArray}:Src P w 1 (.string s) s.size (s.data.toList.map fun b=>Value.int .u8 b.toNat):=by
 refine⟨fun w'=>by simp[Builtin.lenOf],fun n w' hn _=> ?_,by rw[List.length_map,pJ,Nat.mul_one],fun u hu=> ?_⟩
 ·simp only[Builtin.firstCells,Sem.run_pure]
  congr 1
  apply Array.ext'
  have e:(s.extract 0 n).data=s.data.extract 0 n:=by rw[ByteArray.data_extract]
  rw[e]
  simp[List.map_take]
 ·obtain⟨b,_,rfl⟩:=List.mem_map.1 hu
  rfl
theorem FT (h:Rel C tm st G w) (hE:E.ty=C.ty) (hV:∀ id o,V id=o→o≠ .dead→st.os[id]? =some o) {v:Value} {d:D} {e:TypeId} {xs:List D} {k:Vk} (hk:C.ty e=some k) (hv:RepT C st.os G w v d) (hs:eJ E V e d=some xs):
  ∃ bX,Src P w k.ks.length v xs.length bX∧(∀ i j,i<xs.length→j<k.ks.length→RepV C.ty w (okB C st.os G w) (bX.getD (i*k.ks.length+j) undef) ((xs.getD i .undef).cell j))∧∀ x,x∈xs→k.fits x=true:=by
 have x_:∀ (a:Option Addr) (m c:Nat) (nb:Bool) (l:List D),RepV C.ty w (okB C st.os G w) (.slice a m c) (.sl e nb l)→
   ∃ bX,Src P w k.ks.length (.slice a m c) l.length bX∧(∀ i j,i<l.length→j<k.ks.length→RepV C.ty w (okB C st.os G w) (bX.getD (i*k.ks.length+j) undef) ((l.getD i .undef).cell j))∧∀ x,x∈l→k.fits x=true:=by
  intro a m c nb l hr
  cases hr with
  |slnil=>exact⟨[],lf,fun i j hi=>by simp at hi,fun x hx=>by cases hx⟩
  |sl e ad c els k' cs hk' hsp hc hf hok hcell hrep=>
   rw[hk]at hk'
   cases hk'
   have hget:∀ i j,i<l.length→j<k.ks.length→((List.range (l.length*k.ks.length)).map fun x=>cs (x/k.ks.length) (x % k.ks.length)).getD (i*k.ks.length+j) undef=cs i j:=by
    intro i j hi hj
    have h1:=idx_lt hi hj (Nat.le_refl _)
    have h2:(i*k.ks.length+j)/k.ks.length=i:=by rw[Nat.mul_comm,Nat.mul_add_div (by omega),Nat.div_eq_of_lt hj];omega
    have h3:(i*k.ks.length+j) % k.ks.length=j:=by rw[Nat.mul_comm,Nat.mul_add_mod,Nat.mod_eq_of_lt hj]
    simp[zq1,h1,h2,h3]
   refine⟨(List.range (l.length*k.ks.length)).map fun x=>cs (x/k.ks.length) (x % k.ks.length),jI (by simp) (fun x u hu=> ?_) (fun u hu=> ?_),fun i j hi hj=>by rw[hget i j hi hj];exact hrep i j hi hj,hf⟩
   ·have hx:x<l.length*k.ks.length:=by
     have:=(zq6.1 hu).1
     simpa using this
    rw[addr_add ad x (hsp (by rintro rfl;have:l.length=0:=by omega
                              rw[this]at hx;simp at hx))]
    have hpos:0<k.ks.length:=by
     rcases Nat.eq_zero_or_pos k.ks.length with h0 |h0
     ·rw[h0]at hx;simp at hx
     ·exact h0
    simp only[List.getElem?_map,List.getElem?_range hx,Option.map_some,zq5]at hu
    subst hu
    have:=hcell (x/k.ks.length) (x % k.ks.length) (Nat.div_lt_of_lt_mul (by rw[Nat.mul_comm];exact hx)) (Nat.mod_lt _ hpos)
    rwa [Nat.mul_comm (x/k.ks.length),Nat.div_add_mod]at this
   ·obtain⟨x,hx,rfl⟩:=List.mem_map.1 hu
    have hx:x<l.length*k.ks.length:=by simpa using hx
    have hpos:0<k.ks.length:=by
     rcases Nat.eq_zero_or_pos k.ks.length with h0 |h0
     ·rw[h0]at hx;simp at hx
     ·exact h0
    have hi:x/k.ks.length<l.length:=Nat.div_lt_of_lt_mul (by rw[Nat.mul_comm];exact hx)
    have hj:=Nat.mod_lt x hpos
    exact ld (hrep _ _ hi hj) (Vk.cg (hf _ (mem_getD hi)) _ k.ks[x % k.ks.length] (zq4 hj))
 have empty:∀ (a:Option Addr),(∀ y,a=some y→(0:Nat)≠0→y.spot=none)→Src P w k.ks.length (.slice a 0 0) 0 []:=by
  intro a ha
  cases a with
  |none=>exact lf
  |some ad=>exact jI (by rw[Nat.zero_mul];rfl) (fun j u hu=>by simp at hu) (fun u hu=>by cases hu)
 have v_:∀ {id:Nat} {nb:Bool} {l:List D} {g cap:Nat} {cur:Array Value} {t:TypeId},Cd C st.os G w id k l nb g cap cur t→∀ (off len c:Nat),off+len≤l.length→
   ∃ bX,Src P w k.ks.length (.slice (some ⟨g,off*k.ks.length,none⟩) len c) len bX∧(∀ i j,i<len→j<k.ks.length→RepV C.ty w (okB C st.os G w) (bX.getD (i*k.ks.length+j) undef) (((l.drop off).take len |>.getD i .undef).cell j))∧∀ x,x∈(l.drop off).take len→k.fits x=true:=by
  intro id nb l g cap cur t hr off len c hle
  have xW:=hr.cs
  have FU:off*k.ks.length+len*k.ks.length≤cap*k.ks.length:=by
   rw[←Nat.add_mul]
   exact Nat.mul_le_mul_right _ (by have:=hr.nc;omega)
  have hget:∀ x,x<len*k.ks.length→((cur.toList.drop (off*k.ks.length)).take (len*k.ks.length)).getD x undef=cur.getD (off*k.ks.length+x) undef:=by
   intro x hx
   simp[zq1,zq2,List.getElem?_take,hx]
  have hrep:∀ i j,i<len→j<k.ks.length→RepV C.ty w (okB C st.os G w) (((cur.toList.drop (off*k.ks.length)).take (len*k.ks.length)).getD (i*k.ks.length+j) undef) (((l.drop off).take len |>.getD i .undef).cell j):=by
   intro i j hi hj
   rw[hget _ (idx_lt hi hj (Nat.le_refl _))]
   have:=hr.rep (off+i) j (by omega) hj
   have e1:(l.drop off |>.take len).getD i .undef=l.getD (off+i) .undef:=by simp[zq1,List.getElem?_take,hi]
   rw[e1,show off*k.ks.length+(i*k.ks.length+j)=(off+i)*k.ks.length+j by rw[Nat.add_mul];omega]
   exact this
  have hfit:∀ x,x∈(l.drop off).take len→k.fits x=true:=fun x hx=>hr.fit x (List.mem_of_mem_drop (List.mem_of_mem_take hx))
  have lh:((l.drop off).take len).length=len:=by simp;omega
  refine⟨(cur.toList.drop (off*k.ks.length)).take (len*k.ks.length),jI (by simp;omega) (fun x u hu=> ?_) (fun u hu=> ?_),hrep,hfit⟩
  ·rw[addr_add _ _ rfl]
   have hx:=(zq6.1 hu).1
   simp only[List.length_take,List.length_drop,Array.length_toList]at hx
   rw[cell_of_row w g _ cur t (0,0) hr.hh]
   rw[List.getElem?_take_of_lt (by omega),List.getElem?_drop]at hu
   simpa using hu
  ·obtain⟨x,hx,rfl⟩:=List.getElem_of_mem hu
   have Hs:=hx
   simp only[List.length_take,List.length_drop,Array.length_toList]at Hs
   have tB:x<len*k.ks.length:=by omega
   have hpos:0<k.ks.length:=by
    rcases Nat.eq_zero_or_pos k.ks.length with h0 |h0
    ·rw[h0]at tB;simp at tB
    ·exact h0
   have hi:x/k.ks.length<len:=Nat.div_lt_of_lt_mul (by rw[Nat.mul_comm];exact tB)
   have hj:=Nat.mod_lt x hpos
   have:=hrep _ _ hi hj
   rw[Nat.mul_comm (x/k.ks.length),Nat.div_add_mod,zq1,zq4 hx]at this
   exact ld this (Vk.cg (hfit _ (mem_getD (by omega))) _ k.ks[x % k.ks.length] (zq4 hj))
 have full:∀ {l:List D},(l.drop 0).take l.length=l:=by intro l;simp
 cases d with
 |str b=>
  simp only[eJ]at hs
  split at hs
  ·rename_i hty
   rw[hE,hk]at hty
   cases hty
   cases hs
   rw[eH hv]
   refine⟨_,by have:=DX (P:=P) (w:=w) (s:=b);rw[←pJ b]at this;simpa using this,fun i j hi hj=> ?_,fun x hx=> ?_⟩
   ·have LS:j=0:=by simpa using hj
    subst LS
    simp only[List.length_map]at hi
    have e1:(b.data.toList.map fun c:UInt8=>Value.int .u8 c.toNat).getD (i*([Sk.int IntKind.u8].length)+0) undef= .int .u8 (b.data.toList[i]).toNat:=by
     simp only[List.length_cons,List.length_nil,Nat.zero_add,Nat.mul_one,Nat.add_zero,zq1,List.getElem?_map,zq4 hi,Option.map_some,Option.getD_some]
    have e2:(b.data.toList.map fun c:UInt8=>D.int .u8 c.toNat).getD i .undef= .int .u8 (b.data.toList[i]).toNat:=by
     simp only[zq1,List.getElem?_map,zq4 hi,Option.map_some,Option.getD_some]
    rw[e1,e2]
    exact .int _ _
   ·obtain⟨c,_,rfl⟩:=List.mem_map.1 hx
    rfl
  ·cases hs
 |sl e1 nb l=>
  simp only[eJ,jD]at hs
  split at hs
  ·rename_i hee
   cases hs
   subst hee
   obtain⟨a,c,rfl,_⟩:=fQ hv rfl
   exact x_ a _ c nb xs hv
  ·cases hs
 |zs e1 nb=>
  simp only[eJ,jD]at hs
  split at hs
  ·rename_i hee
   cases hs
   simp only[RepT,RepT1,RepT0]at hv
   refine⟨[], ?_,fun i j hi=>by simp at hi,fun x hx=>by cases hx⟩
   cases hv with
   |zsnil=>exact lf
   |zs e ad k hk hsp=>exact empty _ (fun y hy=>by cases hy;exact hsp)
  ·cases hs
 |own e1 id n=>
  simp only[eJ,jD]at hs
  cases hid:V id with
  |arr e2 nb l=>
   simp only[hid]at hs
   split at hs
   ·rename_i hee
    cases hs
    subst hee
    have hx:=hV id _ hid (by simp)
    simp only[RepT,RepT1,RepT0,oAt_of hx,oSh]at hv
    rw[hv.2.2.2]
    rcases row_at (h.os id _ hx) hk with⟨h0,a,_,h1,_,h2⟩ |⟨g,cap,cur,t,hr⟩
    ·rw[h1]
     refine⟨[],by rw[h0];exact empty a h2,fun i j hi=>by omega,fun x hx=> ?_⟩
     have:=List.eq_nil_of_length_eq_zero h0
     subst this
     cases hx
    ·rw[hr.g1]
     obtain⟨bX,s1,s2,s3⟩:=v_ hr 0 xs.length cap (by omega)
     rw[full]at s2 s3
     rw[Nat.zero_mul]at s1
     exact⟨bX,s1,s2,s3⟩
   ·cases hs
  |fro e2 nb l=>
   simp only[hid]at hs
   split at hs
   ·rename_i hee
    cases hs
    subst hee
    have hx:=hV id _ hid (by simp)
    simp only[RepT,RepT1,RepT0,oAt_of hx,oSh]at hv
    have ho:=h.os id _ hx
    have hlv:=zF ho
    obtain⟨a,c,e3,_⟩:=hlv
    simp only[ObjRel]at ho
    rw[hv.2.2.2]
    rw[e3]at ho⊢
    exact x_ a _ c nb xs ho
   ·cases hs
  |_=>simp[hid]at hs
 |ownv e1 id off len=>
  simp only[eJ,jD]at hs
  cases hid:V id with
  |arr e2 nb l=>
   simp only[hid]at hs
   split at hs
   ·rename_i hee
    cases hs
    subst hee
    have hx:=hV id _ hid (by simp)
    simp only[RepT,RepT1,RepT0,oAt_of hx,oSh]at hv
    obtain⟨hlv,rfl,h2,a0,c0,k0,h3,h4,a1,rfl,h6,h7,h8⟩:=hv
    rw[hk]at h3
    cases h3
    have lh:((l.drop off).take len).length=len:=by simp;omega
    rw[lh]
    rcases row_at (h.os id _ hx) hk with⟨h0,a,_,h1,_,h9⟩ |⟨g,cap,cur,t,hr⟩
    ·have:len=0:=by omega
     subst this
     rw[h4]at h1
     simp only[Value.slice.injEq]at h1
     obtain⟨rfl,_,rfl⟩:=h1
     refine⟨[], ?_,fun i j hi=>by omega,fun x hx=>by simp at hx⟩
     have hz:0 - off=0:=by omega
     rw[hz]
     exact empty _ (fun _ _ h=>absurd rfl h)
    ·have FV:=hr.g1
     rw[h4]at FV
     simp only[Value.slice.injEq,true_and]at FV
     obtain⟨rfl,rfl⟩:=FV
     by_cases LU:off<c0
     ·have:=h8 LU
      simp only[Option.map_some,Nat.zero_add]at this
      subst this
      exact v_ hr off len (c0 - off) h2
     ·have hnc:=hr.nc
      have:len=0:=by omega
      subst this
      refine⟨[], ?_,fun i j hi=>by omega,fun x hx=>by simp at hx⟩
      have hz:c0 - off=0:=by omega
      rw[hz]
      exact empty _ (fun _ _ h=>absurd rfl h)
   ·cases hs
  |fro e2 nb l=>
   simp only[hid]at hs
   split at hs
   ·rename_i hee
    cases hs
    subst hee
    have hx:=hV id _ hid (by simp)
    simp only[RepT,RepT1,RepT0,oAt_of hx,oSh]at hv
    obtain⟨hlv,rfl,h2,a0,c0,k0,h3,h4,a1,rfl,h6,h7,h8⟩:=hv
    have ho:=h.os id _ hx
    simp only[ObjRel]at ho
    rw[h4]at ho
    have:=ho.sub h3 h2 h6 h7 h8
    have lh:((l.drop off).take len).length=len:=by simp;omega
    exact x_ _ _ _ nb _ this
   ·cases hs
  |_=>simp[hid]at hs
 |_=>simp[eJ,jD]at hs
end
end
section
section
variable {C:Cx} {P:Program} {E:Env} {tm:Array Value} {st:St} {G:Gh} {w:World} {ρ:Operand→Value} {o:Oper} {V:Vw}
def Cg (P:Program) (u:TypeId):Bool:=match P.underlying u with |some (.slice _)=>true |some .string=>true |_=>false
theorem qX {bX:List Value} {m size:Nat} (h:bX.length=m*size):bX.take (m*size)=bX:=List.take_of_length_le (by omega)
theorem hJ {t u ty e:TypeId} (ht:xV P t e=true) (hu:Cg P u=true) {i:TypeInfo} (hi:P.info? e=some i) {base:Option Addr} {n cap:Nat} {x:Value} {m:Nat} {bX:List Value}
  (hs:Src P w i.size x m bX) (mF:n+m≤cap):
  (Builtin.append_ #[t,u] ty #[.slice base n cap,x]).run P w=match base with
   |none=> .ok (.slice none (n+m) cap) w
   |some a=>((storeCells (a.add (n*i.size)) bX).run P w).andThen fun _ w'=> .ok (.slice (some a) (n+m) cap) w':=by
 have hf:=hs.first m w (Nat.le_refl _) rfl
 rw[qX hs.nl]at hf
 unfold Cg at hu
 cases e1:P.underlying u with
 |none=>simp[e1]at hu
 |some ud=>
  cases ud<;>simp[e1]at hu<;>cases base<;>
   simp[Builtin.append_,run_underlying (jt ht),run_underlying e1,run_sizeOf hi,hs.len,mF,hf]
theorem uE {t u ty e:TypeId} (ht:xV P t e=true) (hu:Cg P u=true) {i:TypeInfo} (hi:P.info? e=some i) {z:Value} (hz:i.zero=some z) {base:Option Addr} {n cap:Nat} {x:Value} {m:Nat} {bX fD:List Value}
  (hs:Src P w i.size x m bX) (ho:Src P w i.size (.slice base n cap) n fD) (mF:cap<n+m) (h63:((n+m:Nat):Int)≤9223372036854775807) (hfit:Builtin.nextslicecap (n+m) cap*i.bytes≤281474976710656):
  (Builtin.append_ #[t,u] ty #[.slice base n cap,x]).run P w=
   .ok (.slice (some ⟨w.heap.size,0,none⟩) (n+m) (grownCap w (n+m) cap e))
    (w.drew.alloc (.cells (fD.toArray++bX.toArray++Builtin.zeroCells z.cells (grownCap w (n+m) cap e - (n+m))) e)):=by
 have hf:=hs.first m w.drew (Nat.le_refl _) rfl
 rw[qX hs.nl]at hf
 have KL:=ho.first n w.drew (Nat.le_refl _) rfl
 rw[qX ho.nl]at KL
 have hn: ¬(n+m≤cap):=by omega
 have Jk: ¬(9223372036854775807<((n:Int)+(m:Int))):=by omega
 have Jl: ¬(281474976710656<Builtin.nextslicecap (n+m) cap*i.bytes):=by omega
 unfold Cg at hu
 cases e1:P.underlying u with
 |none=>simp[e1]at hu
 |some ud=>
  cases ud<;>simp[e1]at hu<;>
   (simp[Builtin.append_,run_underlying (jt ht),run_underlying e1,sizeOf,typeInfo,zeroValue,hi,hz,hs.len,hn,Jk,Jl,Question.forced,hf,KL,newRow,grownCap]
    congr 2
    apply Array.ext'
    simp[List.append_assoc])
theorem uF {os:List Obj} {id s:Nat} {o:Obj} (hid:os[id]? =some o) (hl:live o=true) (hs:os[s]? =some .dead):id≠s:=by
 rintro rfl
 rw[hid]at hs
 cases hs
 cases hl
theorem wl {os:List Obj} {id s j:Nat} {o' oj:Obj} (hlt:s<os.length) (hid:id<os.length) (hne:id≠s) (hj:((os.set id .gone).set s o')[j]? =some oj):
  (j=s∧oj=o')∨(j=id∧oj= .gone)∨(j≠s∧j≠id∧os[j]? =some oj):=by
 rw[List.getElem?_set]at hj
 by_cases e:s=j
 ·subst e
  simp[hlt]at hj
  exact .inl ⟨rfl,hj.symm⟩
 ·simp only[e,if_false,List.getElem?_set]at hj
  by_cases e2:id=j
  ·subst e2
   simp[hid]at hj
   exact .inr (.inl ⟨rfl,hj.symm⟩)
  ·simp only[e2,if_false]at hj
   exact .inr (.inr ⟨fun h=>e h.symm,fun h=>e2 h.symm,hj⟩)
theorem zG {os:List Obj} {id s:Nat} {o o':Obj} {gh:Value×Option Nat} {n n':Nat} (hid:os[id]? =some o) (hl:live o=true) (hs:os[s]? =some .dead)
  (xJ:∀ b,gh.2=some b→(n≤b∧b<n')∨(G id).2=some b) {b:Nat} (h:LB ((os.set id .gone).set s o') (bx G s gh) b):LB os G b∨(n≤b∧b<n'):=by
 have hne:=uF hid hl hs
 obtain⟨j,oj,hj,hlj,hb⟩:=h
 rcases wl (zq6.1 hs).1 (zq6.1 hid).1 hne hj with⟨rfl,rfl⟩ |⟨rfl,rfl⟩ |⟨h1,h2,h3⟩
 ·simp only[bx,if_true]at hb
  rcases xJ b hb with h |h
  ·exact .inr h
  ·exact .inl ⟨id,o,hid,hl,h⟩
 ·cases hlj
 ·simp only[bx,h1,if_false]at hb
  exact .inl ⟨j,oj,h3,hlj,hb⟩
theorem qY {os:List Obj} {id s:Nat} {o o':Obj} {gh:Value×Option Nat} {w':World} (hid:os[id]? =some o) (hl:live o=true) (hs:os[s]? =some .dead) (hsz:w.heap.size≤w'.heap.size)
  (xJ:∀ b,gh.2=some b→(w.heap.size≤b∧b<w'.heap.size)∨(G id).2=some b) {b:Nat} (h:okB C os G w b):okB C ((os.set id .gone).set s o') (bx G s gh) w' b:=by
 refine⟨by have:=h.1;omega,fun hLB=> ?_,h.2.2⟩
 rcases zG hid hl hs xJ hLB with h' |h'
 ·exact h.2.1 h'
 ·have:=h.1
  omega
theorem Rel.move {ts:List D} {os:List Obj} (h:Rel C tm ⟨ts,os⟩ G w) {id s:Nat} {o o':Obj} {gh:Value×Option Nat} {w':World} (hid:os[id]? =some o) (hl:live o=true) (hs:os[s]? =some .dead)
  (hd:isDead o'=false) (xJ:∀ b,gh.2=some b→(w.heap.size≤b∧b<w'.heap.size)∨(G id).2=some b)
  (hsame:∀ b,b<w.heap.size→ ¬(G id).2=some b→w'.heap[b]? =w.heap[b]?)
  (hsz:w.heap.size≤w'.heap.size) (ht:w'.tape=w.tape) (hos:w'.os=w.os) (hout:w'.output=w.output)
  (ho:ObjRel C ((os.set id .gone).set s o') (bx G s gh) w' s o') (hro:refsO o'=[]):Rel C tm ⟨ts,(os.set id .gone).set s o'⟩ (bx G s gh) w':=by
 have hne:=uF hid hl hs
 have yf:s<os.length:=(zq6.1 hs).1
 have Ch:id<os.length:=(zq6.1 hid).1
 have hget:=fun (j:Nat) (oj:Obj) (hj:((os.set id .gone).set s o')[j]? =some oj)=>wl yf Ch hne hj
 have hok:=fun (b:Nat) (hb:okB C os G w b)=>qY (C:=C) (o':=o') hid hl hs hsz xJ hb
 have hS:Same (okB C os G w) w w':=fun b hb=>hsame b hb.1 fun h2=>hb.2.1 ⟨id,o,hid,hl,h2⟩
 have jG:∀ i,isDead (os.getD i .gone)=false→(oAt ((os.set id .gone).set s o') i=oAt os i∧bx G s gh i=G i)∨oAt ((os.set id .gone).set s o') i= .no:=by
  intro i hi
  have h1:=j7 hs hi
  rw[dE (by simpa using yf),if_neg h1,dE Ch]
  by_cases e:i=id
  ·rw[if_pos e];exact .inr rfl
  ·rw[if_neg e]
   exact .inl ⟨rfl,by simp[bx,h1]⟩
 have pE:∀ i,isDead (os.getD i .gone)=false→isDead (((os.set id .gone).set s o').getD i .gone)=false:=fun i hi=>cJ hd (cJ rfl hi)
 exact {
  tsz:=h.tsz
  ts:=fun j d hj=>(h.ts j d hj).mono hok hS fun i hi=>jG i (h.rT j d hj i hi)
  os:=by
   intro j oj hj
   rcases hget j oj hj with⟨rfl,rfl⟩ |⟨rfl,rfl⟩ |⟨h1,h2,h3⟩
   ·exact ho
   ·trivial
   ·refine (h.os j oj h3).mono hok hS (fun i hi=>jG i (h.rO j oj h3 i hi)) (by simp[bx,h1]) ?_
    intro hlj b hb
    have FK:=h.inX b ⟨j,oj,h3,hlj,hb⟩
    exact hsame b FK.2.1 fun e=>h2 (h.inj j id oj o b h3 hid hlj hl hb e)
  inj:=by
   intro i j oi oj b hi hj hli hlj hbi hbj
   rcases hget i oi hi with⟨rfl,rfl⟩ |⟨rfl,rfl⟩ |⟨h1,h2,h3⟩
   ·rcases hget j oj hj with⟨rfl,rfl⟩ |⟨rfl,rfl⟩ |⟨g1,g2,g3⟩
    ·rfl
    ·cases hlj
    ·simp only[bx,if_true]at hbi
     simp only[bx,g1,if_false]at hbj
     have FK:=h.inX b ⟨j,oj,g3,hlj,hbj⟩
     rcases xJ b hbi with h' |h'
     ·omega
     ·exact absurd (h.inj j id oj o b g3 hid hlj hl hbj h') g2
   ·cases hli
   ·rcases hget j oj hj with⟨rfl,rfl⟩ |⟨rfl,rfl⟩ |⟨g1,g2,g3⟩
    ·simp only[bx,if_true]at hbj
     simp only[bx,h1,if_false]at hbi
     have FK:=h.inX b ⟨i,oi,h3,hli,hbi⟩
     rcases xJ b hbj with h' |h'
     ·omega
     ·exact absurd (h.inj i id oi o b h3 hid hli hl hbi h') h2
    ·cases hlj
    ·simp only[bx,h1,if_false]at hbi
     simp only[bx,g1,if_false]at hbj
     exact h.inj i j oi oj b h3 g3 hli hlj hbi hbj
  inX:=by
   intro b hb
   rcases zG hid hl hs xJ hb with h' |h'
   ·have:=h.inX b h'
    exact⟨this.1,by omega,this.2.2⟩
   ·refine⟨fun hx=> ?_,h'.2,fun hb=> ?_⟩
    ·have:=h.xw b hx
     have:=h.size
     omega
    ·have:=h.size
     omega
  rT:=fun j d hj i hi=>pE i (h.rT j d hj i hi)
  rO:=by
   intro j oj hj i hi
   rcases hget j oj hj with⟨rfl,rfl⟩ |⟨rfl,rfl⟩ |⟨h1,h2,h3⟩
   ·rw[hro]at hi;cases hi
   ·simp[refsO]at hi
   ·exact pE i (h.rO j oj h3 i hi)
  tape:=ht.trans h.tape
  osw:=hos.trans h.osw
  out:=hout.trans h.out
  size:=by have:=h.size;omega
  frame:=by
   intro b hb hM
   have Hb:=h.size
   rw[hsame b (by omega) fun h2=>hM ((h.inX b ⟨id,o,hid,hl,h2⟩).2.2 hb)]
   exact h.frame b hb hM
  xw:=h.xw}
end
end
section
section
variable {C:Cx} {P:Program} {E:Env} {tm:Array Value} {st:St} {G:Gh} {w:World} {ρ:Operand→Value} {o:Oper} {V:Vw}
theorem zH {ok:Nat→Prop} {ty:TypeId→Option Vk} {sz:Nat} {l xs:List D} {fD bX AJ:List Value} (hlo:fD.length=l.length*sz) (Ht:bX.length=xs.length*sz)
  (h1:∀ i j,i<l.length→j<sz→RepV ty w ok (fD.getD (i*sz+j) undef) ((l.getD i .undef).cell j))
  (h2:∀ i j,i<xs.length→j<sz→RepV ty w ok (bX.getD (i*sz+j) undef) ((xs.getD i .undef).cell j)):
  ∀ i j,i<(l++xs).length→j<sz→RepV ty w ok ((fD++bX++AJ).getD (i*sz+j) undef) (((l++xs).getD i .undef).cell j):=by
 intro i j hi hj
 rw[List.length_append]at hi
 by_cases hil:i<l.length
 ·have e1:(l++xs).getD i .undef=l.getD i .undef:=by simp[zq1,List.getElem?_append,hil]
  have hx:i*sz+j<fD.length:=by rw[hlo];exact idx_lt hil hj (Nat.le_refl _)
  have e2:(fD++bX++AJ).getD (i*sz+j) undef=fD.getD (i*sz+j) undef:=by
   rw[List.append_assoc]
   simp[zq1,List.getElem?_append,hx]
  rw[e1,e2]
  exact h1 i j hil hj
 ·have e1:(l++xs).getD i .undef=xs.getD (i - l.length) .undef:=by simp[zq1,List.getElem?_append,hil]
  have hx:(i - l.length)*sz+j<bX.length:=by rw[Ht];exact idx_lt (by omega) hj (Nat.le_refl _)
  have e3:i*sz+j=fD.length+((i - l.length)*sz+j):=by
   rw[hlo,←Nat.add_assoc,←Nat.add_mul,show l.length+(i - l.length)=i by omega]
  have e2:(fD++bX++AJ).getD (i*sz+j) undef=bX.getD ((i - l.length)*sz+j) undef:=by
   rw[List.append_assoc,e3]
   simp[zq1,List.getElem?_append,hx,show¬fD.length+((i - l.length)*sz+j)<fD.length by omega]
  rw[e1,e2]
  exact h2 _ j (by omega) hj
theorem yg {os:List Obj} {id:Nat} {e:TypeId} {k:Vk} {l:List D} {g cap:Nat} {cur:Array Value} {t:TypeId} (hk:C.ty e=some k) (hG:G id=(.slice (some ⟨g,0,none⟩) l.length cap,some g))
  (hh:w.heap[g]? =some (.cells cur t (0,0))) (hnc:l.length≤cap) (hcm:cap≤maxLen) (xW:cur.size=cap*k.ks.length) (hf:∀ d,d∈l→k.fits d=true)
  (hr:∀ i j,i<l.length→j<k.ks.length→RepV C.ty w (okB C os G w) (cur.getD (i*k.ks.length+j) undef) ((l.getD i .undef).cell j)):ObjRel C os G w id (.arr e false l):=by
 refine⟨k,cur.toList.take (l.length*k.ks.length),hk,⟨?_,.inr ⟨rfl,g,cap,cur,t,by rw[hG],by rw[hG],hh,hnc,hcm,xW,rfl⟩⟩,hf,fun i j hi hj=> ?_⟩
 ·have:l.length*k.ks.length≤cap*k.ks.length:=Nat.mul_le_mul_right _ hnc
  simp
  omega
 ·have e1:(cur.toList.take (l.length*k.ks.length)).getD (i*k.ks.length+j) undef=cur.getD (i*k.ks.length+j) undef:=by
   simp[zq1,zq2,List.getElem?_take,idx_lt hi hj (Nat.le_refl _)]
  rw[e1]
  exact hr i j hi hj
theorem Ci {os:List Obj} {id:Nat} {e:TypeId} {k:Vk} {a:Option Addr} (hk:C.ty e=some k) (hG:G id=(.slice a 0 0,none)) (hsp:∀ x,a=some x→(0:Nat)≠0→x.spot=none):ObjRel C os G w id (.arr e a.isNone []):=
 ⟨k,[],hk,⟨by simp,.inl ⟨by rw[hG],rfl,a,by rw[hG],rfl,hsp⟩⟩,(fun d hd=>by cases hd),(fun i j hi=>by simp at hi)⟩
theorem own_rept {os:List Obj} {id n:Nat} {e:TypeId} {v:Value} (hl:qO v n) (ho:oAt os id= .row e n) (hG:(G id).1=v):RepT C os G w v (.own e id n):=by
 refine⟨hl, ?_⟩
 rw[ho]
 exact⟨rfl,rfl,hG.symm⟩
theorem wm {a:Option Addr} (hsp:∀ x,a=some x→(0:Nat)≠0→x.spot=none):qO (.slice a 0 0) 0:=⟨a,0,rfl,Nat.le_refl _,fun _=>rfl,hsp⟩
theorem qZ {g n cap:Nat} (h:n≤cap):qO (.slice (some ⟨g,0,none⟩) n cap) n:=⟨_,cap,rfl,h,(fun h=>by cases h),(fun x hx=>by cases hx;exact fun _=>rfl)⟩
theorem yh {fD bX:List Value} {z:Value} {n m gc sz:Nat} (h1:fD.length=n*sz) (h2:bX.length=m*sz) (hz:z.cells.size=sz) (hg:n+m≤gc):
  (fD.toArray++bX.toArray++Builtin.zeroCells z.cells (gc - (n+m))).size=gc*sz:=by
 simp only[Array.size_append,List.size_toArray,h1,h2,size_zeroCells,hz,←Nat.add_mul]
 congr 1
 omega
theorem AK {fD bX:List Value} {zs:Array Value} (x:Nat):(fD.toArray++bX.toArray++zs).getD x undef=(fD++bX++zs.toList).getD x undef:=by
 simp[zq2,zq1,←Array.getElem?_toList]
theorem wn {k:Vk} {l xs:List D} (h1:∀ d,d∈l→k.fits d=true) (h2:∀ d,d∈xs→k.fits d=true):∀ d,d∈l++xs→k.fits d=true:=by
 intro d hd
 rcases List.mem_append.1 hd with h |h
 ·exact h1 d h
 ·exact h2 d h
theorem wo (h:Rel C tm st G w) (hE:E.ty=C.ty) (hT:vW C P) (hV:∀ id o,V id=o→o≠ .dead→st.os[id]? =some o) {s:Nat} (hsite:st.os[s]? =some .dead) {x y:Operand} {args:Array Operand} {xK:Array TypeId} {t u e:TypeId} {GL:Nat} {d1 d2 v:D} {ws:Wr}
  (aW:o.op= .call {callee:= .builtin .append,args:=args,argTypes:=xK}) (ha:args.toList=[x,y]) (hat:xK.toList=[t,u]) (ht:xV P t e=true) (hu:Cg P u=true)
  {k:Vk} (hk:C.ty e=some k) {i:TypeInfo} (hi:P.info? e=some i) (hby:i.bytes=GL) (hpos:0<i.bytes) (hzc:(i.zero.map fun z=>z.cells.size)=some k.ks.length)
  (hx:RepT C st.os G w (ρ x) d1) (hy:RepT C st.os G w (ρ y) d2) (he:i_ KS E s e GL V [d1,d2]=some (v,ws)):co C tm st G w v ws ((execOp ρ o).run P w):=by
 subst hby
 cases FO ha
 cases FO hat
 have hrun:∀ v' w',(Builtin.append_ #[t,u] o.type #[ρ x,ρ y]).run P w= .ok v' w'→(execOp ρ o).run P w= .ok (.value v') w':=by
  intro v' w' hr
  simp[execOp,aW,resolve,invoke,builtin,hr]
 obtain⟨k9,iV,lc,_,_⟩:=dv (hT e k hk).1
 rw[hi]at iV
 cases iV
 obtain⟨z,hz1,hz2⟩:∃ z,i.zero=some z∧z.cells.size=k.ks.length:=by
  cases e1:i.zero with
  |none=>simp[e1]at hzc
  |some z=>exact⟨z,rfl,by simpa[e1]using hzc⟩
 unfold i_ at he
 simp only at he
 split at he
 ·cases he
 ·rename_i xs LV
  obtain⟨bX,hsrc,hnew,zI⟩:=FT h hE hV hk hy LV
  rw[←lc]at hsrc
  have yf:s<st.os.length:=(zq6.1 hsite).1
  have E5:∀ (nI:List Obj) (G1:Gh) (l:List D) (fD:List Value) (cap:Nat) (base:Option Addr),Src P w i.size (.slice base l.length cap) l.length fD→cap<l.length+xs.length→(l.length+xs.length)*i.bytes≤140737488355328→ρ x= .slice base l.length cap→
    (∀ i j,i<l.length→j<k.ks.length→RepV C.ty w (okB C st.os G w) (fD.getD (i*k.ks.length+j) undef) ((l.getD i .undef).cell j))→(∀ d,d∈l→k.fits d=true)→
    ∃ gc out,l.length+xs.length≤gc∧gc≤maxLen∧out.size=gc*k.ks.length∧(execOp ρ o).run P w= .ok (.value (.slice (some ⟨w.heap.size,0,none⟩) (l.length+xs.length) gc)) (w.drew.alloc (.cells out e))∧
     (∀ i j,i<(l++xs).length→j<k.ks.length→RepV C.ty w (okB C st.os G w) (out.getD (i*k.ks.length+j) undef) (((l++xs).getD i .undef).cell j)):=by
   intro nI G1 l fD cap base uD hlt hb zJ hold E6
   have hle:l.length+xs.length≤140737488355328:=by
    have:(l.length+xs.length)*1≤(l.length+xs.length)*i.bytes:=Nat.mul_le_mul_left _ hpos
    omega
   have KM:=grownCap_ge w (l.length+xs.length) cap e
   have LW:=grownCap_le_maxLen w (l.length+xs.length) cap e (by simp only[maxLen];omega)
   have hr:=uE (P:=P) (w:=w) (t:=t) (u:=u) (ty:=o.type) (e:=e) ht hu hi hz1 hsrc uD hlt (by omega) (growslice_fits (by omega) hb)
   have l1:=uD.nl
   have l2:=hsrc.nl
   rw[lc]at l1 l2
   refine⟨_,_,KM,LW,yh l1 l2 hz2 KM,hrun _ _ (by rw[zJ];exact hr),fun i j hi hj=> ?_⟩
   rw[AK]
   exact zH l1 l2 hold hnew i j hi hj
  split at he
  ·rename_i e1 id n
   split at he
   ·rename_i e2 nb l hid
    have hid':=hV id _ hid (by simp)
    split at he
    ·rename_i hee
     subst hee
     split at he
     ·rename_i oX
      cases he
      simp only[RepT,RepT1,RepT0,oAt_of hid',oSh]at hx
      obtain⟨_,Jm,rfl,zJ⟩:=hx
      have Jn:=Jm.symm
      subst Jn
      have hne:=uF hid' rfl hsite
      have Ch:id<st.os.length:=(zq6.1 hid').1
      have nB:∀ o':Obj,wrL st.os [(id,.gone),(s,o')]=(st.os.set id .gone).set s o':=fun _=>rfl
      have AL:∀ nb',oAt ((st.os.set id .gone).set s (.arr e nb' (l++xs))) s= .row e (l.length+xs.length):=by
       intro nb'
       rw[dE (by simpa using yf),if_pos rfl]
       simp[oSh]
      have GR:∀ nb',isDead (((st.os.set id .gone).set s (.arr e nb' (l++xs))).getD s .gone)=false:=by
       intro nb'
       simp[zq1,yf,isDead]
      have GS:∀ gh i,isDead (st.os.getD i .gone)=false→bx G s gh i=G i:=fun gh i hi=>by simp[bx,j7 hsite hi]
      have Cj:∀ (fD:List Value) (cap:Nat) (base:Option Addr) (nb':Bool),Src P w i.size (.slice base l.length cap) l.length fD→cap<l.length+xs.length→ρ x= .slice base l.length cap→nb'=false→
        (∀ i j,i<l.length→j<k.ks.length→RepV C.ty w (okB C st.os G w) (fD.getD (i*k.ks.length+j) undef) ((l.getD i .undef).cell j))→(∀ d,d∈l→k.fits d=true)→
        co C tm st G w (.own e s (l.length+xs.length)) [(id,.gone),(s,.arr e nb' (l++xs))] ((execOp ρ o).run P w):=by
       rintro fD cap base nb' uD hlt Jo rfl hold E6
       obtain⟨gc,out,f1,f2,f3,f4,f5⟩:=E5 st.os G l fD cap base uD hlt oX Jo hold E6
       have hsame:∀ b,b<w.heap.size→(w.drew.alloc (.cells out e)).heap[b]? =w.heap[b]? :=fun b hb=>heap_alloc_old w.drew _ b hb
       refine⟨_,_,bx G s (.slice (some ⟨w.heap.size,0,none⟩) (l.length+xs.length) gc,some w.heap.size),.inl f4, ?_, ?_, ?_,GS _⟩
       ·rw[nB]
        refine h.move hid' rfl hsite rfl (fun b hb=>by cases hb;left;simp) (fun b hb _=>hsame b hb) (by simp) rfl rfl rfl ?_ rfl
        refine yg hk (by simp[bx]) (heap_alloc_new w.drew _) (by simpa using f1) f2 f3 (wn E6 zI) (fun i j hi hj=> ?_)
        exact (f5 i j hi hj).mono (fun b hb=>qY hid' rfl hsite (by simp) (fun b hb=>by cases hb;left;simp) hb) (fun b hb=>hsame b hb.1)
       ·rw[nB]
        exact own_rept (qZ f1) (AL _) (by simp[bx])
       ·intro i hi
        simp[refsD,refs1,refs0,refsb]at hi
        subst hi
        rw[nB]
        exact GR _
      rcases row_at (h.os id _ hid') hk with⟨h0,a,g2,g1,hnb,hsp⟩ |⟨g,cap,cur,ct,hr⟩
      ·have xL:=List.eq_nil_of_length_eq_zero h0
       subst xL
       rw[g1]at zJ
       by_cases hm:xs.length=0
       ·have GQ:=List.eq_nil_of_length_eq_zero hm
        subst GQ
        have hn0:bX=[]:=List.eq_nil_of_length_eq_zero (by have:=hsrc.nl;simpa using this)
        subst hn0
        have hr:(Builtin.append_ #[t,u] o.type #[ρ x,ρ y]).run P w= .ok (.slice a 0 0) w:=by
         rw[zJ]
         have:=hJ (P:=P) (w:=w) (ty:=o.type) ht hu hi (base:=a) (n:=0) (cap:=0) hsrc (Nat.le_refl _)
         rw[this]
         cases a<;>simp[storeCells]
        refine⟨_,_,bx G s (.slice a 0 0,none),.inl (hrun _ _ hr), ?_, ?_, ?_,GS _⟩
        ·rw[nB]
         refine h.move hid' rfl hsite rfl (fun b hb=>by cases hb) (fun b hb _=>rfl) (Nat.le_refl _) rfl rfl rfl ?_ rfl
         simp only[List.isEmpty_nil,Bool.true_and,List.append_nil,hnb]
         exact Ci hk (by simp[bx]) hsp
        ·rw[nB]
         exact own_rept (wm hsp) (AL _) (by simp[bx])
        ·intro i hi
         simp[refsD,refs1,refs0,refsb]at hi
         subst hi
         rw[nB]
         exact GR _
       ·have uD:Src P w i.size (.slice a 0 0) 0 []:=by
         cases a with
         |none=>exact lf
         |some ad=>exact jI (by rw[Nat.zero_mul];rfl) (fun j u hu=>by simp at hu) (fun u hu=>by cases hu)
        have Jp:xs.isEmpty=false:=by cases xs<;>simp at hm⊢
        exact Cj [] 0 a _ uD (by simp;omega) zJ (by simp[Jp]) (fun i j hi=>by simp at hi) (fun d hd=>by cases hd)
      ·rw[hr.g1]at zJ
       by_cases mF:l.length+xs.length≤cap
       ·have hl2:=hsrc.nl
        rw[lc]at hl2
        have DY:=hr.cs
        have FU:l.length*k.ks.length+xs.length*k.ks.length≤cap*k.ks.length:=by rw[←Nat.add_mul];exact Nat.mul_le_mul_right _ mF
        have hfit:l.length*k.ks.length+0+bX.length≤cur.size:=by omega
        have hst:=run_storeCells_at P g (l.length*k.ks.length) ct bX 0 cur w hr.hh hfit hsrc.one
        have Hu:(Builtin.append_ #[t,u] o.type #[ρ x,ρ y]).run P w= .ok (.slice (some ⟨g,0,none⟩) (l.length+xs.length) cap) (w.setRow g (cur.toList.take (l.length*k.ks.length+0)++bX++cur.toList.drop (l.length*k.ks.length+0+bX.length)).toArray):=by
         rw[zJ]
         have:=hJ (P:=P) (w:=w) (ty:=o.type) ht hu hi (base:=some ⟨g,0,none⟩) (n:=l.length) (cap:=cap) hsrc mF
         rw[this,lc]
         show ((storeCells ((⟨g,0,none⟩:Addr).add (l.length*k.ks.length)) bX).run P w).andThen _=_
         rw[addr_add _ _ rfl]
         simp only[Nat.zero_add]at hst⊢
         rw[hst]
         rfl
        refine⟨_,_,bx G s (.slice (some ⟨g,0,none⟩) (l.length+xs.length) cap,some g),.inl (hrun _ _ Hu), ?_, ?_, ?_,GS _⟩
        ·rw[nB]
         refine h.move hid' rfl hsite rfl (fun b hb=> .inr (by rw[hr.g2];exact hb)) (fun b hb hne=>setRow_other w g b _ (fun e=>hne (by rw[hr.g2,e]))) (by simp) rfl rfl rfl ?_ rfl
         have hnb:(xs.isEmpty&&nb)=false:=by rw[hr.nb];simp
         rw[hnb]
         refine yg hk (by simp[bx]) (setRow_heap w g cur _ ct _ hr.hh) (by simpa using mF) hr.cm (by rw[(oW (by omega)).1,DY]) (wn hr.fit zI) (fun i j hi hj=> ?_)
         have hS:Same (okB C st.os G w) w (w.setRow g (cur.toList.take (l.length*k.ks.length+0)++bX++cur.toList.drop (l.length*k.ks.length+0+bX.length)).toArray):=fun b hb=>setRow_other w g b _ (fun e=>hb.2.1 ⟨id,_,hid',rfl,by rw[hr.g2,e]⟩)
         refine RepV.mono (ok:=okB C st.os G w) ?_ (fun b hb=>qY hid' rfl hsite (by simp) (fun b hb=> .inr (by rw[hr.g2];exact hb)) hb) hS
         have e1:∀ (q:List Value) (x:Nat),q.toArray.getD x undef=q.getD x undef:=fun q x=>by simp[zq2,zq1]
         rw[e1]
         refine zH (by simp;omega) hl2 (fun i j hi hj=> ?_) hnew i j hi hj
         have e2:(cur.toList.take (l.length*k.ks.length+0)).getD (i*k.ks.length+j) undef=cur.getD (i*k.ks.length+j) undef:=by
          simp[zq1,zq2,List.getElem?_take,idx_lt hi hj (Nat.le_refl _)]
         rw[e2]
         exact hr.rep i j hi hj
        ·rw[nB]
         exact own_rept (qZ mF) (AL _) (by simp[bx])
        ·intro i hi
         simp[refsD,refs1,refs0,refsb]at hi
         subst hi
         rw[nB]
         exact GR _
       ·have uD:Src P w i.size (.slice (some ⟨g,0,none⟩) l.length cap) l.length (cur.toList.take (l.length*k.ks.length)):=by
         have DY:=hr.cs
         have FU:l.length*k.ks.length≤cap*k.ks.length:=Nat.mul_le_mul_right _ hr.nc
         rw[lc]
         refine jI (by simp;omega) (fun x u hu=> ?_) (fun u hu=> ?_)
         ·rw[addr_add _ _ rfl,cell_of_row w g _ cur ct (0,0) hr.hh]
          rw[List.getElem?_take]at hu
          split at hu
          ·simpa using hu
          ·cases hu
         ·obtain⟨x,hx,rfl⟩:=List.getElem_of_mem hu
          have Hs:=hx
          simp only[List.length_take,Array.length_toList]at Hs
          have tB:x<l.length*k.ks.length:=by omega
          have hpos:0<k.ks.length:=(hT e k hk).2
          have hi:x/k.ks.length<l.length:=Nat.div_lt_of_lt_mul (by rw[Nat.mul_comm];exact tB)
          have hj:=Nat.mod_lt x hpos
          have:=hr.rep _ _ hi hj
          rw[Nat.mul_comm (x/k.ks.length),Nat.div_add_mod]at this
          have e3:cur.getD x undef=(cur.toList.take (l.length*k.ks.length))[x]:=by
           have:x<cur.size:=by omega
           simp[zq2,this]
          rw[e3]at this
          exact ld this (Vk.cg (hr.fit _ (mem_getD hi)) _ k.ks[x % k.ks.length] (zq4 hj))
        refine Cj _ cap (some ⟨g,0,none⟩) _ uD (by omega) zJ (by rw[hr.nb];simp) (fun i j hi hj=> ?_) hr.fit
        have e2:(cur.toList.take (l.length*k.ks.length)).getD (i*k.ks.length+j) undef=cur.getD (i*k.ks.length+j) undef:=by
         simp[zq1,zq2,List.getElem?_take,idx_lt hi hj (Nat.le_refl _)]
        rw[e2]
        exact hr.rep i j hi hj
     ·cases he
    ·cases he
   ·cases he
  ·rename_i e1 nb
   split at he
   ·rename_i hee
    subst hee
    split at he
    ·rename_i oX
     cases he
     obtain⟨a,zJ,hnb,hsp⟩:∃ a,ρ x= .slice a 0 0∧nb=a.isNone∧∀ y,a=some y→(0:Nat)≠0→y.spot=none:=by
      simp only[RepT,RepT1,RepT0]at hx
      generalize ρ x=u at hx
      cases hx with
      |zsnil=>exact⟨none,rfl,rfl,fun y hy=>by cases hy⟩
      |zs e ad k hk hsp=>exact⟨some ad,rfl,rfl,fun y hy=>by cases hy;exact hsp⟩
     have AL:∀ nb',oAt (st.os.set s (.arr e nb' xs)) s= .row e xs.length:=by
      intro nb'
      rw[dE yf,if_pos rfl]
      rfl
     have GR:∀ nb',isDead ((st.os.set s (.arr e nb' xs)).getD s .gone)=false:=by
      intro nb'
      simp[zq1,yf,isDead]
     have GS:∀ gh i,isDead (st.os.getD i .gone)=false→bx G s gh i=G i:=fun gh i hi=>by simp[bx,j7 hsite hi]
     by_cases hm:xs.length=0
     ·have GQ:=List.eq_nil_of_length_eq_zero hm
      subst GQ
      have hn0:bX=[]:=List.eq_nil_of_length_eq_zero (by have:=hsrc.nl;simpa using this)
      subst hn0
      have hr:(Builtin.append_ #[t,u] o.type #[ρ x,ρ y]).run P w= .ok (.slice a 0 0) w:=by
       rw[zJ]
       have:=hJ (P:=P) (w:=w) (ty:=o.type) ht hu hi (base:=a) (n:=0) (cap:=0) hsrc (Nat.le_refl _)
       rw[this]
       cases a<;>simp[storeCells]
      refine⟨_,_,bx G s (.slice a 0 0,none),.inl (hrun _ _ hr), ?_, ?_, ?_,GS _⟩
      ·rw[iB]
       refine h.newObj hsite rfl (fun b hb=>by cases hb) (fun b hb=>rfl) (Nat.le_refl _) rfl rfl rfl ?_ (fun i hi=>by simp[refsO]at hi)
       simp only[List.isEmpty_nil,Bool.true_and,hnb]
       exact Ci hk (by simp[bx]) hsp
      ·rw[iB]
       exact own_rept (wm hsp) (AL _) (by simp[bx])
      ·intro i hi
       simp[refsD,refs1,refs0,refsb]at hi
       subst hi
       rw[iB]
       exact GR _
     ·have uD:Src P w i.size (.slice a 0 0) 0 []:=by
       cases a with
       |none=>exact lf
       |some ad=>exact jI (by rw[Nat.zero_mul];rfl) (fun j u hu=>by simp at hu) (fun u hu=>by cases hu)
      have Jp:(xs.isEmpty&&nb)=false:=by cases xs<;>simp at hm⊢
      obtain⟨gc,out,f1,f2,f3,f4,f5⟩:=E5 st.os G [] [] 0 a uD (by simp;omega) (by simpa using oX) zJ (fun i j hi=>by simp at hi) (fun d hd=>by cases hd)
      simp only[List.length_nil,Nat.zero_add,List.nil_append]at f1 f4 f5
      have hsame:∀ b,b<w.heap.size→(w.drew.alloc (.cells out e)).heap[b]? =w.heap[b]? :=fun b hb=>heap_alloc_old w.drew _ b hb
      rw[Jp]
      refine⟨_,_,bx G s (.slice (some ⟨w.heap.size,0,none⟩) xs.length gc,some w.heap.size),.inl f4, ?_, ?_, ?_,GS _⟩
      ·rw[iB]
       refine h.newObj hsite rfl (fun b hb=>by cases hb;simp) (fun b hb=>hsame b hb) (by simp) rfl rfl rfl ?_ (fun i hi=>by simp[refsO]at hi)
       refine yg hk (by simp[bx]) (heap_alloc_new w.drew _) f1 f2 f3 zI (fun i j hi hj=> ?_)
       exact (f5 i j hi hj).mono (fun b hb=>uy (by simp) (fun b hb=>by cases hb;exact Nat.le_refl _) hb) (fun b hb=>hsame b hb.1)
      ·rw[iB]
       exact own_rept (qZ f1) (AL _) (by simp[bx])
      ·intro i hi
       simp[refsD,refs1,refs0,refsb]at hi
       subst hi
       rw[iB]
       exact GR _
    ·cases he
   ·cases he
  ·rename_i e1 id off len
   split at he
   ·rename_i e2 nb l hid
    have hid':=hV id _ hid (by simp)
    split at he
    ·rename_i hee
     subst hee
     split at he
     ·rename_i hfit
      cases he
      have M5:=hx
      simp only[RepT,RepT1,RepT0,oAt_of hid',oSh]at hx
      obtain⟨hlv,Jm,hle,a0,c0,k0,KN,hG1,a1,zJ,hn1,Hv,E7⟩:=hx
      have Jn:=Jm.symm
      subst Jn
      rw[hk]at KN
      cases KN
      have hl2:=hsrc.nl
      rw[lc]at hl2
      obtain⟨aL,cL,Jq,M6,LX,_⟩:=zE (h.os id _ hid')
      rw[hG1]at Jq
      simp only[Value.slice.injEq,true_and]at Jq
      obtain⟨rfl,rfl⟩:=Jq
      have mF:len+xs.length≤c0 - off:=by omega
      have KO:=hJ (P:=P) (w:=w) (ty:=o.type) ht hu hi (base:=a1) (n:=len) (cap:=c0 - off) hsrc mF
      have Hw:qO (.slice a1 (len+xs.length) (c0 - off)) (len+xs.length):=⟨a1,_,rfl,mF,(fun h=>by
       have:=LX (by cases a0<;>simp_all)
       omega),Hv⟩
      have E8:(l.take (off+len)++(xs++l.drop (off+len+xs.length))).length=l.length:=by simp;omega
      have hlt:id<st.os.length:=(zq6.1 hid').1
      have finish:∀ w',(execOp ρ o).run P w= .ok (.value (.slice a1 (len+xs.length) (c0 - off))) w'→Rel C tm ⟨st.ts,st.os.set id (.arr e nb (l.take (off+len)++(xs++l.drop (off+len+xs.length))))⟩ G w'→
        co C tm st G w (.ownv e id off (len+xs.length)) [(id,.arr e nb (l.take (off+len)++(xs++l.drop (off+len+xs.length))))] ((execOp ρ o).run P w):=by
       intro w' hw hrel
       refine⟨_,w',G,.inl hw,hrel,⟨Hw, ?_⟩, ?_,fun _ _=>rfl⟩
       ·rw[iB,dE hlt,if_pos rfl]
        simp only[oSh,E8]
        exact⟨trivial,by omega,a0,c0,k,hk,hG1,a1,rfl,hn1,Hv,E7⟩
       ·intro i hi
        simp[refsD,refs1,refs0,refsb]at hi
        subst hi
        simp[wrL,zq1,hlt,isDead]
      by_cases hm:xs.length=0
      ·have GQ:=List.eq_nil_of_length_eq_zero hm
       subst GQ
       have hn0:bX=[]:=List.eq_nil_of_length_eq_zero (by have:=hsrc.nl;simpa using this)
       subst hn0
       refine finish w (hrun _ _ ?_) ?_
       ·rw[zJ,KO]
        cases a1<;>simp[storeCells]
       ·have e1:l.take (off+len)++([]++l.drop (off+len+([]:List D).length))=l:=by simp
        rw[e1,qQ hid']
        exact h
      ·rcases row_at (h.os id _ hid') hk with⟨h0,_⟩ |⟨g,cap,cur,ct,hr⟩
       ·omega
       ·have FV:=hr.g1
        rw[hG1]at FV
        simp only[Value.slice.injEq,true_and]at FV
        obtain⟨rfl,rfl⟩:=FV
        have KP:=E7 (by omega)
        simp only[Option.map_some,Nat.zero_add]at KP
        subst KP
        have DY:=hr.cs
        have FU:(off+len)*k.ks.length+xs.length*k.ks.length≤c0*k.ks.length:=by rw[←Nat.add_mul];exact Nat.mul_le_mul_right _ (by omega)
        have hst:=run_storeCells_at P g ((off+len)*k.ks.length) ct bX 0 cur w hr.hh (by omega) hsrc.one
        obtain⟨q1,q2⟩:=oW (vs:=bX) (cur:=cur) (off:=(off+len)*k.ks.length) (by omega)
        refine finish _ (hrun _ _ ?_) (zD h hid' hk hr q1 E8 (fun d hd=> ?_) (fun i j hi hj=> ?_))
        ·rw[zJ,KO]
         show ((storeCells ((⟨g,off*k.ks.length,none⟩:Addr).add (len*i.size)) bX).run P w).andThen _=_
         rw[lc,addr_add _ _ rfl]
         simp only[←Nat.add_mul]
         rw[hst]
         rfl
        ·rcases List.mem_append.1 hd with hd |hd
         ·exact hr.fit _ (List.mem_of_mem_take hd)
         ·rcases List.mem_append.1 hd with hd |hd
          ·exact zI _ hd
          ·exact hr.fit _ (List.mem_of_mem_drop hd)
        ·rw[q2 _ (by rw[DY];exact idx_lt hi hj hr.nc),hl2]
         by_cases hA:i<off+len
         ·have hB:=idx_lt hA hj (Nat.le_refl _)
          rw[if_neg (by omega)]
          have e1:(l.take (off+len)++(xs++l.drop (off+len+xs.length))).getD i .undef=l.getD i .undef:=by
           rw[zq1,List.getElem?_append_left (by simp;omega),List.getElem?_take_of_lt hA,zq1]
          rw[e1]
          exact hr.rep i j hi hj
         ·by_cases hB:i<off+len+xs.length
          ·have hC:=idx_lt (show i - (off+len)<xs.length by omega) hj (Nat.le_refl _)
           have e3:i*k.ks.length+j=(off+len)*k.ks.length+((i - (off+len))*k.ks.length+j):=by
            rw[←Nat.add_assoc,←Nat.add_mul,show off+len+(i - (off+len))=i by omega]
           rw[if_pos (by omega)]
           have e1:(l.take (off+len)++(xs++l.drop (off+len+xs.length))).getD i .undef=xs.getD (i - (off+len)) .undef:=by
            have Ht:(l.take (off+len)).length=off+len:=by simp;omega
            rw[zq1,List.getElem?_append_right (by omega),Ht,List.getElem?_append_left (by omega),zq1]
           rw[e1,show i*k.ks.length+j - (off+len)*k.ks.length=(i - (off+len))*k.ks.length+j by omega]
           exact hnew _ j (by omega) hj
          ·have e4:(off+len+xs.length)*k.ks.length≤i*k.ks.length:=Nat.mul_le_mul_right _ (by omega)
           rw[Nat.add_mul (off+len)]at e4
           rw[if_neg (by omega)]
           have e1:(l.take (off+len)++(xs++l.drop (off+len+xs.length))).getD i .undef=l.getD i .undef:=by
            have Ht:(l.take (off+len)).length=off+len:=by simp;omega
            rw[zq1,List.getElem?_append_right (by omega),Ht,List.getElem?_append_right (by omega),List.getElem?_drop,zq1]
            congr 2
            omega
           rw[e1]
           exact hr.rep i j hi hj
     ·cases he
    ·cases he
   ·cases he
  ·cases he
end
end
section
section
variable {C:Cx} {P:Program} {E:Env} {tm:Array Value} {st:St} {G:Gh} {w:World} {ρ:Operand→Value} {o:Oper} {V:Vw}
theorem Ck {ok:Nat→Prop} {vs:List Value} {ds:List D} (h:jr vs (ds.map fun | .sl e true []=> .zs e true |d=>d)=true):
  vs.length=ds.length∧∀ j,j<ds.length→RepV C.ty w ok (vs.getD j undef) (ds.getD j .undef)∧(vs.getD j undef).oneCell'=true:=by
 obtain⟨h1,h2⟩:=f_ h
 refine⟨by simpa using h1,fun j hj=> ?_⟩
 have:=h2 j (by simpa using hj)
 rw[zq1 (l:=ds.map _),List.getElem?_map,zq4 hj]at this
 rw[zq1 (l:=ds),zq4 hj]
 simp only[Option.map_some,Option.getD_some]at this⊢
 generalize vs.getD j undef=v at this⊢
 generalize ds[j]=d at this⊢
 split at this
 ·have hr:=m5 (C:=C) (w:=w) this ok
  have:=hr
  cases hr
  exact⟨.slnil _,rfl⟩
 ·have hr:=m5 (C:=C) (w:=w) this ok
  refine⟨hr, ?_⟩
  unfold iy at this
  split at this<;>first |rfl |(cases this;done)
end
end
section
section
variable {C:Cx} {P:Program} {E:Env} {tm:Array Value} {st:St} {G:Gh} {w:World} {ρ:Operand→Value} {o:Oper} {V:Vw}
end
end
section
section
variable {C:Cx} {P:Program} {E:Env} {tm:Array Value} {st:St} {G:Gh} {w:World} {ρ:Operand→Value} {o:Oper} {V:Vw}
end
end
section
section
variable {C:Cx} {P:Program} {E:Env} {tm:Array Value} {st:St} {G:Gh} {w:World} {ρ:Operand→Value} {o:Oper} {V:Vw}
theorem AM (h:Rel C tm st G w) {t e:TypeId} {m:Nat} {x i:Operand} {d1 d2 v:D} {ws:Wr} (aW:o.op= .indexAddr t x i) (ht:P.underlying t=some (.array m e)) (hs:(P.info? e).map (·.size)=some 1)
  (hx:RepT C st.os G w (ρ x) d1∧∀ id,id∈refsD d1→isDead (st.os.getD id .gone)=false) (hi:RepT C st.os G w (ρ i) d2) (he:tg KS m [d1,d2]=some (v,ws)):co C tm st G w v ws ((execOp ρ o).run P w):=by
 unfold tg at he
 split at he
 ·rename_i id off k n heq
  simp only[List.cons.injEq,and_true]at heq
  obtain⟨rfl,rfl⟩:=heq
  split at he
  ·rename_i hlt
   cases he
   have hv:=bF hi
   obtain⟨k9,iV,hsz⟩:∃ k9,P.info? e=some k9∧k9.size=1:=by
    cases ei:P.info? e with
    |none=>rw[ei]at hs;cases hs
    |some k9=>rw[ei]at hs;exact⟨k9,rfl,by simpa using hs⟩
   obtain⟨⟨a,ea,hsp⟩,hrest⟩:=hx.1
   refine .val h (v':= .pointer (some ⟨a.block,a.off+n.toNat,none⟩)) ?_ ?_ ?_
   ·simp[execOp,aW,Instr.indexAt,Instr.sureAddr,ea,hv,asIntOf,run_underlying ht,hlt.1,hlt.2,run_sizeOf iV,hsz,addr_add a _ hsp]
   ·refine⟨by omega,⟨_,rfl,rfl⟩, ?_⟩
    split at hrest
    ·rename_i nn IC
     obtain⟨g,h1,h2⟩:=hrest
     rw[ea]at h2
     simp only[Value.pointer.injEq,zq5]at h2
     subst h2
     simp only[IC]
     exact⟨g,h1,rfl⟩
    ·trivial
   ·exact fun id' hid=>hx.2 id' hid
  ·cases he
 ·rename_i b jj off k n heq
  simp only[List.cons.injEq,and_true]at heq
  obtain⟨rfl,rfl⟩:=heq
  split at he
  ·rename_i hlt
   cases he
   have hv:=bF hi
   obtain⟨k9,iV,hsz⟩:∃ k9,P.info? e=some k9∧k9.size=1:=by
    cases ei:P.info? e with
    |none=>rw[ei]at hs;cases hs
    |some k9=>rw[ei]at hs;exact⟨k9,rfl,by simpa using hs⟩
   obtain⟨⟨a,ea,hsp⟩,hE⟩:=hx.1
   refine .val h (v':= .pointer (some ⟨a.block,a.off+n.toNat,none⟩)) ?_ ⟨by omega,⟨_,rfl,rfl⟩, ?_⟩ ?_
   ·simp[execOp,aW,Instr.indexAt,Instr.sureAddr,ea,hv,asIntOf,run_underlying ht,hlt.1,hlt.2,run_sizeOf iV,hsz,addr_add a _ hsp]
   ·rw[ea]at hE
    cases b with
    |sl e nb els=>
     obtain⟨h1,ad,c,k,h2,h3,h4⟩:=hE
     refine⟨h1,ad,c,k,h2,h3, ?_⟩
     simp only[Value.pointer.injEq,zq5]at h4
     subst h4
     simp[Nat.add_assoc]
    |own e id n=>
     simp only[ElaAt]at hE⊢
     split
     ·rename_i e' m ho
      simp only[ho]at hE
      obtain⟨h1,h2,h3,ad,cap,k,h4,h5,h6⟩:=hE
      refine⟨h1,h2,h3,ad,cap,k,h4,h5, ?_⟩
      simp only[Value.pointer.injEq,zq5]at h6
      subst h6
      simp[Nat.add_assoc]
     ·trivial
    |ownv e id LA n=>
     simp only[ElaAt]at hE⊢
     split
     ·rename_i e' m ho
      simp only[ho]at hE
      obtain⟨h1,h2,h3,ad,cap,k,h4,h5,h6⟩:=hE
      refine⟨h1,h2,h3,ad,cap,k,h4,h5, ?_⟩
      simp only[Value.pointer.injEq,zq5]at h6
      subst h6
      simp[Nat.add_assoc]
     ·trivial
    |_=>exact hE.elim
   ·exact fun id' hid=>hx.2 id' hid
  ·cases he
 ·cases he
theorem yi (h:Rel C tm st G w) {x:Operand} {d1 v:D} {ws:Wr} (aW:o.op= .nilCheck x)
  (hx:RepT C st.os G w (ρ x) d1∧∀ id,id∈refsD d1→isDead (st.os.getD id .gone)=false) (he:oM KS [d1]=some (v,ws)):co C tm st G w v ws ((execOp ρ o).run P w):=by
 unfold oM at he
 split at he
 ·rename_i id off heq
  simp only[List.cons.injEq,and_true]at heq
  subst heq
  cases he
  obtain⟨⟨a,ea,hsp⟩,_⟩:=hx.1
  exact .val h (v':=ρ x) (by simp[execOp,aW,ea]) hx.1 hx.2
 ·rename_i cs off heq
  simp only[List.cons.injEq,and_true]at heq
  subst heq
  cases he
  have oI:=hx.1
  refine .val h (v':=ρ x) ?_ hx.1 hx.2
  simp only[RepT,RepT1,RepT0]at oI
  generalize e1:ρ x=u at oI⊢
  cases oI
  simp[execOp,aW,e1]
 ·cases he
end
end
section
section
variable {C:Cx} {P:Program} {E:Env} {tm:Array Value} {st:St} {G:Gh} {w:World} {ρ:Operand→Value} {o:Oper} {V:Vw}
end
end
section
section
variable {C:Cx} {P:Program} {G:Gh} {w:World}
def FW (P:Program) (C:Cx) (os:List Obj) (G:Gh) (w:World) (n:Nat) (t:TypeId) (ks:List Sk):Prop:=
 ∀ (em:Bool) (d:Nat),n≤d→∀ (cs:Array Value) (off:Nat) (ds:List D),fitsL ks ds=true→bE os C G w cs off ds→
  (Instr.checkKey em d t (cK P t cs off ks.length)).run P w= .ok () w
def iC (em:Bool) (d:Nat) (cs:Array Value):List Field→Sem Unit
 |[]=>pure ()
 |f::fs=>do
  if f.name≠ "_" then Instr.checkKey em d f.type (←part f.type cs f.offset)
  iC em d cs fs
theorem mw (em:Bool) (d:Nat) (t:TypeId) (cs:Array Value) {fs:Array Field} (ht:P.underlying t=some (.struct fs)):
  (Instr.checkKey em (d+1) t (.agg cs)).run P w=(iC em d cs fs.toList).run P w:=by
 simp only[Instr.checkKey,Sem.run_bind,run_underlying ht,Result.andThen_ok]
 rw[←Array.forIn_toList]
 generalize fs.toList=l
 induction l generalizing w with
 |nil=>simp[iC]
 |cons f fs ih=>
  simp only[List.forIn_cons,iC,Sem.run_bind,Sem.run_ite]
  by_cases hn:f.name= "_"
  ·simp only[hn,ne_eq,not_true_eq_false,if_false,Sem.run_pure,Result.andThen_ok]
   exact ih
  ·simp only[hn,ne_eq,not_false_eq_true,if_true,Sem.run_bind]
   generalize (part f.type cs f.offset).run P w=r1
   cases r1 with
   |ok a w1=>
    simp only[Result.andThen_ok]
    generalize (Instr.checkKey em d f.type a).run P w1=r2
    cases r2 with
    |ok b w2=>simp only[Result.andThen_ok,Sem.run_pure];exact ih
    |halt x w2=>simp[Result.andThen]
   |halt x w1=>simp[Result.andThen]
def j_ (em:Bool) (d:Nat) (e:TypeId) (n:Nat) (xs:Array Value):List Nat→Sem Unit
 |[]=>pure ()
 |i::is=>do
  let a←part e xs (i*n)
  Instr.checkKey em d e a
  j_ em d e n xs is
theorem m9 (em:Bool) (d:Nat) (t e:TypeId) (len:Nat) (xs:Array Value) {i:TypeInfo} (ht:P.underlying t=some (.array len e)) (hi:P.info? e=some i):
  (Instr.checkKey em (d+1) t (.agg xs)).run P w=(j_ em d e i.size xs (List.range' 0 len)).run P w:=by
 simp only[Instr.checkKey,Sem.run_bind,run_underlying ht,Result.andThen_ok]
 rw[Std.Legacy.Range.forIn_eq_forIn_range']
 simp only[Std.Legacy.Range.size,Nat.sub_zero,Nat.add_sub_cancel,Nat.div_one]
 generalize List.range' 0 len=l
 induction l generalizing w with
 |nil=>simp[j_]
 |cons f fs ih=>
  simp only[List.forIn_cons,j_,Sem.run_bind,run_sizeOf hi,Result.andThen_ok]
  generalize (part e xs (f*i.size)).run P w=r1
  cases r1 with
  |ok a w1=>
   simp only[Result.andThen_ok]
   generalize (Instr.checkKey em d e a).run P w1=r2
   cases r2 with
   |ok b w2=>simp only[Result.andThen_ok,Sem.run_pure];exact ih
   |halt x w2=>simp[Result.andThen]
  |halt x w1=>simp[Result.andThen]
theorem pL {os:List Obj} {n:Nat} (ih:∀ t s,eh P n t=some s→FW P C os G w n t s) (em:Bool) (d:Nat) (hd:n≤d) (xs:Array Value):
  ∀ (fs:List Field) (a r:List Sk),fs.foldl (gX P n) (some a)=some (a++r)→∀ (ds:List D),fitsL r ds=true→bE os C G w xs a.length ds→(iC em d xs fs).run P w= .ok () w
 |[],a,r,hf,ds,h1,hx=>by simp[iC]
 |f::fs,a,r,hf,ds,h1,hx=>by
  rw[List.foldl_cons]at hf
  cases e1:gX P n (some a) f with
  |none=>rw[e1,foldl_none (gX P n) (fun a=>rfl) fs]at hf;cases hf
  |some a'=>
   rw[e1]at hf
   obtain⟨s0,i0,h6,h7,zA,oR,hsz,rfl⟩:=j4 e1
   obtain⟨r',hr'⟩:=j5 fs _ _ hf
   rw[List.append_assoc,List.append_cancel_left_eq]at hr'
   subst hr'
   obtain⟨b0,DU,hb1⟩:=nH h6
   have l1:=(fitsL_spec h1).1
   simp only[List.length_append]at l1
   obtain⟨f1,f2⟩:=dM s0 r' ds h1
   have oI:=hx.1
   have p1:=fP h7 DU w xs f.offset (by omega) (fun e=>by rw[hsz];exact hb1 e)
   rw[hsz,oR]at p1
   have hq:=ih f.type s0 h6 em d hd xs a.length (ds.take s0.length) f1 (hx.take (by omega))
   have hrest:=pL ih em d hd xs fs (a++s0) r' (by rw[hf,List.append_assoc]) (ds.drop s0.length) f2 (by rw[List.length_append];exact hx.drop (by omega))
   simp only[iC,zA,ne_eq,not_false_eq_true,if_true,Sem.run_bind,oR,p1,Result.andThen_ok,hq,hrest]
theorem q0 {os:List Obj} {em:Bool} {d n:Nat} {e:TypeId} {s:List Sk} (hok:FW P C os G w n e s) (hd:n≤d) {i:TypeInfo} (hi:P.info? e=some i) (hsz:i.size=s.length)
  {ag:Bool} (ha:isAggT P e=some ag) (h1:ag=false→s.length=1) (xs:Array Value):
  ∀ (len st:Nat) (ds:List D),fitsL (List.replicate len s).flatten ds=true→bE os C G w xs (st*s.length) ds→(j_ em d e i.size xs (List.range' st len)).run P w= .ok () w
 |0,st,ds,f1,hx=>by simp[j_]
 |len+1,st,ds,f1,hx=>by
  rw[List.replicate_succ,List.flatten_cons]at f1
  have l1:=(fitsL_spec f1).1
  rw[List.length_append]at l1
  obtain⟨f1,f3⟩:=dM _ _ _ f1
  have oI:=hx.1
  have p1:=fP hi ha w xs (st*s.length) (by omega) (fun e=>by rw[hsz];exact h1 e)
  rw[hsz]at p1
  have hq:=hok em d hd xs (st*s.length) _ f1 (hx.take (by omega))
  have ex:st*s.length+s.length=(st+1)*s.length:=by rw[Nat.add_mul,Nat.one_mul]
  have hrest:=q0 (em:=em) hok hd hi hsz ha h1 xs len (st+1) _ f3 (ex▸hx.drop (by omega))
  rw[hsz]at hrest⊢
  simp only[List.range'_succ,j_,Sem.run_bind,p1,Result.andThen_ok,hq,hrest]
theorem uG {os:List Obj}:∀ (n:Nat) (t:TypeId) (ks:List Sk),eh P n t=some ks→FW P C os G w n t ks
 |0,t,ks,h=>by simp[eh]at h
 |n+1,t,ks,h=>by
  intro em d hd cs off ds h1 hx
  obtain⟨d,rfl⟩:∃ d',d=d'+1:=⟨d - 1,by omega⟩
  simp only[eh]at h
  have sc:∀ s td,ks=[s]→P.underlying t=some td→aggD td=false→∃ x,RepT0 C os G w (cs.getD off undef) x∧fits s x=true∧cK P t cs off ks.length=cs.getD off undef:=by
   intro s td hk hu hag
   subst hk
   obtain⟨x,rfl,f1⟩:=fitsL_one h1
   refine⟨x,by simpa using hx.2 0 (by simp),f1, ?_⟩
   simp[cK,isAggT_of hu,hag]
  cases e:P.underlying t with
  |none=>simp[e]at h
  |some td=>
   cases td with
   |bool=>
    simp only[e,zq5]at h
    obtain⟨x,r1,f1,v1⟩:=sc .bool _ h.symm e rfl
    rw[v1]
    cases x<;>simp[fits]at f1
    rw[inv_bool r1.up]
    simp[Instr.checkKey,run_underlying e]
   |int k=>
    simp only[e,zq5]at h
    obtain⟨x,r1,f1,v1⟩:=sc (.int k) _ h.symm e rfl
    rw[v1]
    cases x<;>simp[fits]at f1
    rw[bF r1.up]
    simp[Instr.checkKey,run_underlying e]
   |string=>
    simp only[e,zq5]at h
    obtain⟨x,r1,f1,v1⟩:=sc .str _ h.symm e rfl
    rw[v1]
    cases x<;>simp[fits]at f1
    rw[eH r1.up]
    simp[Instr.checkKey,run_underlying e]
   |struct fs=>
    simp only[e]at h
    split at h
    ·have h':fs.toList.foldl (gX P n) (some [])=some ([]++ks):=h
     have va:∀ cs off,cK P t cs off ks.length= .agg (cs.extract off (off+ks.length)):=by intro cs off;simp[cK,isAggT_of e,aggD]
     rw[va,mw em d t _ e]
     exact pL (fun t s h=>uG n t s h) em d (by omega) _ fs.toList [] ks h' ds h1 (dA hx (fitsL_spec h1).1)
    ·cases h
   |array len el=>
    simp only[e]at h
    split at h
    ·rename_i s i hs hi
     split at h
     ·rename_i hsz
      simp only[beq_iff_eq]at hsz
      cases h
      have va:∀ cs off,cK P t cs off (List.replicate len s).flatten.length= .agg (cs.extract off (off+(List.replicate len s).flatten.length)):=by intro cs off;simp[cK,isAggT_of e,aggD]
      obtain⟨ag,ha,h3⟩:=nH hs
      rw[va,m9 em d t el len _ e hi]
      have x1:=dA hx (fitsL_spec h1).1
      exact q0 (uG n el s hs) (by omega) hi hsz ha h3 _ len 0 ds h1 (by simpa using x1)
     ·cases h
    ·cases h
   |_=>simp[e]at h
end
end
section
def wq:Sk→Bool
 | .int _=>true
 | .bool=>true
 | .str=>true
 |_=>false
theorem li {P:Program}:∀ (n:Nat) (t:TypeId) (ks:List Sk),eh P n t=some ks→∀ s,s∈ks→wq s=true
 |0,t,ks,h=>by simp[eh]at h
 |n+1,t,ks,h=>by
  simp only[eh]at h
  have Jr:∀ (fs:List Field) (a r:List Sk),(∀ s,s∈a→wq s=true)→fs.foldl (gX P n) (some a)=some r→∀ s,s∈r→wq s=true:=by
   intro fs
   induction fs with
   |nil=>intro a r ha hf;cases hf;exact ha
   |cons f fs ih=>
    intro a r ha hf
    rw[List.foldl_cons]at hf
    cases e1:gX P n (some a) f with
    |none=>rw[e1,foldl_none (gX P n) (fun a=>rfl) fs]at hf;cases hf
    |some a'=>
     rw[e1]at hf
     obtain⟨s0,i0,h6,h7,zA,oR,hsz,rfl⟩:=j4 e1
     refine ih _ _ (fun s hs=> ?_) hf
     rcases List.mem_append.1 hs with hs |hs
     ·exact ha s hs
     ·exact li n f.type s0 h6 s hs
  cases e:P.underlying t with
  |none=>simp[e]at h
  |some td=>
   cases td with
   |bool=>simp only[e,zq5]at h;subst h;intro s hs;simp at hs;subst hs;rfl
   |int k=>simp only[e,zq5]at h;subst h;intro s hs;simp at hs;subst hs;rfl
   |string=>simp only[e,zq5]at h;subst h;intro s hs;simp at hs;subst hs;rfl
   |struct fs=>
    simp only[e]at h
    split at h
    ·exact Jr fs.toList [] ks (by simp) h
    ·cases h
   |array len el=>
    simp only[e]at h
    split at h
    ·rename_i s i hs hi
     split at h
     ·cases h
      intro x hx
      obtain⟨l,hl,hx⟩:=List.mem_flatten.1 hx
      rw[(List.mem_replicate.1 hl).2]at hx
      exact li n el s hs x hx
     ·cases h
    ·cases h
   |_=>simp[e]at h
theorem Cm {s t:ByteArray} (h:s.toList=t.toList):s=t:=by
 rw[ByteArray.toList_eq,ByteArray.toList_eq,Array.toList_inj]at h
 cases s;cases t;exact congrArg ByteArray.mk h
theorem oZ:∀ (ks:List Sk) (a b:List D),(∀ s,s∈ks→wq s=true)→fitsL ks a=true→fitsL ks b=true→∃ c,oH a b=some c∧(c=true↔a=b)
 |[],a,b,_,h1,h2=>by
  have e1:a=[]:=List.length_eq_zero_iff.1 (fitsL_spec h1).1
  have e2:b=[]:=List.length_eq_zero_iff.1 (fitsL_spec h2).1
  subst e1 e2
  exact⟨true,rfl,by simp⟩
 |s::ks,a,b,hk,h1,h2=>by
  obtain⟨x,xs,rfl⟩:∃ x xs,a=x::xs:=by cases a<;>simp[fitsL]at h1;exact⟨_,_,rfl⟩
  obtain⟨y,ys,rfl⟩:∃ x xs,b=x::xs:=by cases b<;>simp[fitsL]at h2;exact⟨_,_,rfl⟩
  simp only[fitsL,zq3]at h1 h2
  obtain⟨q,hq,hq2⟩:=oZ ks xs ys (fun s hs=>hk s (List.mem_cons_of_mem _ hs)) h1.2 h2.2
  have k0:=hk s (List.mem_cons_self ..)
  have hp:∃ p,vO x y=some p∧(p=true↔x=y):=by
   cases s<;>simp[wq]at k0
   ·cases x<;>simp[fits]at h1
    cases y<;>simp[fits]at h2
    obtain⟨h1,_⟩:=h1;obtain⟨h2,_⟩:=h2
    subst h1;subst h2
    exact⟨_,by simp[vO];rfl,by simp⟩
   ·cases x<;>simp[fits]at h1
    cases y<;>simp[fits]at h2
    exact⟨_,by simp[vO];rfl,by simp⟩
   ·cases x<;>simp[fits]at h1
    cases y<;>simp[fits]at h2
    refine⟨_,by simp[vO];rfl, ?_⟩
    simp
    exact⟨fun h=>Cm h,fun h=>by rw[h]⟩
  obtain⟨p,hp,yd⟩:=hp
  refine⟨p&&q,B8 hp hq, ?_⟩
  rw[zq3,yd,hq2,List.cons.injEq]
section
variable {C:Cx} {P:Program} {G:Gh} {w:World}
def wt (P:Program) (C:Cx) (os:List Obj) (G:Gh) (w:World) (t:TypeId) (ks:List Sk) (v:Value) (ds:List D):Prop:=
 fitsL ks ds=true∧∃ cs off,v=cK P t cs off ks.length∧bE os C G w cs off ds
def DE (a b:List D):Bool:=(oH a b).getD false
def lj (ds:List D):List (List D)→List MapEntry→Nat→Option (Nat×Value)
 |kd::kds,e::es,i=>match DE ds kd with |true=>some (i,e.val) |false=>lj ds kds es (i+1)
 |_,_,_=>none
inductive ka (P:Program) (C:Cx) (os:List Obj) (G:Gh) (w:World) (t:TypeId) (ks:List Sk):List MapEntry→List (List D)→Prop
 |nil:ka P C os G w t ks [] []
 |cons {e:MapEntry} {es:List MapEntry} {kd:List D} {kds:List (List D)}:wt P C os G w t ks e.key kd→ka P C os G w t ks es kds→ka P C os G w t ks (e::es) (kd::kds)
theorem DZ {os:List Obj} {n:Nat} {t:TypeId} {ks:List Sk} (hk:eh P n t=some ks) (hn:n≤10000) {u v:Value} {a b:List D} (ha:wt P C os G w t ks u a) (hb:wt P C os G w t ks v b):
  (Op.equal t u v).run P w= .ok (DE a b) w:=by
 obtain⟨f1,c1,o1,rfl,r1⟩:=ha
 obtain⟨f2,c2,o2,rfl,r2⟩:=hb
 obtain⟨c,hc,_⟩:=oZ ks a b (li n t ks hk) f1 f2
 have:=qv (os:=os) n t ks hk (C:=C) (G:=G) (w:=w) 10000 hn c1 c2 o1 o2 a b c f1 f2 r1 r2 hc
 unfold DE
 rw[hc]
 exact this
theorem mG {os:List Obj} {n:Nat} {t:TypeId} {ks:List Sk} (hk:eh P n t=some ks) (hn:n≤10000) {u:Value} {ds:List D} (hu:wt P C os G w t ks u ds):
  ∀ (es:List MapEntry) (kds:List (List D)) (i:Nat),ka P C os G w t ks es kds→(Instr.findAsking t u es i).run P w= .ok (lj ds kds es i) w
 |_,_,i,.nil=>by simp[Instr.findAsking,lj]
 |_,_,i,.cons (e:=e) (es:=es) (kd:=kd) (kds:=kds) h1 h2=>by
  have ih:=mG hk hn hu es kds (i+1) h2
  simp only[Instr.findAsking,Sem.run_bind,DZ hk hn hu h1,Result.andThen_ok,Sem.run_ite,lj]
  cases DE ds kd
  ·simp only[Bool.false_eq_true,if_false];exact ih
  ·simp only[if_true,Sem.run_pure]
theorem q_ {os:List Obj} {n:Nat} {t:TypeId} {ks:List Sk} (hk:eh P n t=some ks) {td:TypeDesc} (ht:P.underlying t=some td) {u:Value} {ds:List D} (hu:wt P C os G w t ks u ds):
  ∀ (es:List MapEntry) (kds:List (List D)) (i:Nat),ka P C os G w t ks es kds→Instr.findNow td u es i=none∨Instr.findNow td u es i=some (lj ds kds es i)
 |_,_,i,.nil=> .inr (by simp[Instr.findNow,lj])
 |_,_,i,.cons (e:=e) (es:=es) (kd:=kd) (kds:=kds) h1 h2=>by
  have ih:=q_ hk ht hu es kds (i+1) h2
  have sn:Instr.sameNow td u e.key=none∨Instr.sameNow td u e.key=some (DE ds kd):=by
   cases n with
   |zero=>simp[eh]at hk
   |succ n=>
   obtain⟨f1,c1,o1,e1,r1⟩:=hu
   obtain⟨f2,c2,o2,e2,r2⟩:=h1
   rw[e1,e2]
   simp only[eh,ht]at hk
   cases td with
   |bool=>
    simp only[zq5]at hk
    subst hk
    obtain⟨x,rfl,g1⟩:=fitsL_one f1
    obtain⟨y,rfl,g2⟩:=fitsL_one f2
    have q1:=r1.2 0 (by simp)
    have q2:=r2.2 0 (by simp)
    cases x<;>simp[fits]at g1
    cases y<;>simp[fits]at g2
    have p1:=inv_bool q1.up
    have p2:=inv_bool q2.up
    refine .inr ?_
    simp only[cK,isAggT_of ht,aggD,Nat.add_zero]at p1 p2⊢
    rw[p1,p2]
    simp[Instr.sameNow,DE,oH,vO]
   |int k=>
    simp only[zq5]at hk
    subst hk
    obtain⟨x,rfl,g1⟩:=fitsL_one f1
    obtain⟨y,rfl,g2⟩:=fitsL_one f2
    have q1:=r1.2 0 (by simp)
    have q2:=r2.2 0 (by simp)
    cases x<;>simp[fits]at g1
    cases y<;>simp[fits]at g2
    subst g1
    subst g2
    have p1:=bF q1.up
    have p2:=bF q2.up
    refine .inr ?_
    simp only[cK,isAggT_of ht,aggD,Nat.add_zero]at p1 p2⊢
    rw[p1,p2]
    simp[Instr.sameNow,DE,oH,vO]
   |string=>
    simp only[zq5]at hk
    subst hk
    obtain⟨x,rfl,g1⟩:=fitsL_one f1
    obtain⟨y,rfl,g2⟩:=fitsL_one f2
    have q1:=r1.2 0 (by simp)
    have q2:=r2.2 0 (by simp)
    cases x<;>simp[fits]at g1
    cases y<;>simp[fits]at g2
    rename_i s1 s2
    have p1:=eH q1.up
    have p2:=eH q2.up
    refine .inr ?_
    simp only[cK,isAggT_of ht,aggD,Nat.add_zero]at p1 p2⊢
    rw[p1,p2]
    simp only[Instr.sameNow,DE,oH,vO,Option.getD_some,beq_toListBytes]
   |struct fs=>exact .inl (by simp[Instr.sameNow])
   |array len el=>exact .inl (by simp[Instr.sameNow])
   |_=>simp at hk
  simp only[Instr.findNow,lj]
  rcases sn with sn |sn
  ·rw[sn];exact .inl rfl
  ·rw[sn]
   cases DE ds kd
   ·exact ih
   ·exact .inr rfl
theorem ra {os:List Obj} {n:Nat} {t:TypeId} {ks:List Sk} (hk:eh P n t=some ks) (hn:n≤10000) {u:Value} {ds:List D} (hu:wt P C os G w t ks u ds) (es:List MapEntry) (kds:List (List D)) (h:ka P C os G w t ks es kds):
  (Instr.findKey t u es).run P w= .ok (lj ds kds es 0) w:=by
 obtain⟨td,ht⟩:∃ td,P.underlying t=some td:=by
  cases n with
  |zero=>simp[eh]at hk
  |succ n=>
   simp only[eh]at hk
   cases e:P.underlying t with
   |none=>simp[e]at hk
   |some td=>exact⟨td,rfl⟩
 simp only[Instr.findKey,Sem.run_bind,run_underlying ht,Result.andThen_ok]
 rcases q_ hk ht hu es kds 0 h with e |e
 ·rw[e];exact mG hk hn hu es kds 0 h
 ·rw[e];simp only[Sem.run_pure]
theorem pM {os:List Obj} {n:Nat} {t:TypeId} {ks:List Sk} (hk:eh P n t=some ks) (hn:n≤10000) (em:Bool) {u:Value} {ds:List D} (hu:wt P C os G w t ks u ds):(Instr.checkKey em 10000 t u).run P w= .ok () w:=by
 obtain⟨f1,c1,o1,rfl,r1⟩:=hu
 exact uG n t ks hk em 10000 hn c1 o1 ds f1 r1
end
end
section
def RowR (ty:TypeId→Option Vk) (w:World) (ok:Nat→Prop) (k:Vk) (v:Value) (blk:Option Nat) (els:List D) (nb:Bool):Prop:=
 ∃ xs,FJ w k.ks.length blk v els.length nb xs∧(∀ d,d∈els→k.fits d=true)∧
  ∀ i j,i<els.length→j<k.ks.length→RepV ty w ok (xs.getD (i*k.ks.length+j) undef) ((els.getD i .undef).cell j)
def VarR (ty:TypeId→Option Vk) (w:World) (ok:Nat→Prop) (ks:List Sk) (v:Value) (blk:Option Nat) (cs:List D):Prop:=
 fitsL ks cs=true∧∃ g cells t,v= .pointer (some ⟨g,0,none⟩)∧blk=some g∧w.heap[g]? =some (.cells cells t (0,0))∧cells.size=cs.length∧
  ∀ j,j<cs.length→RepV ty w ok (cells.getD j undef) (cs.getD j .undef)
def yj (ty:TypeId→Option Vk) (w:World) (ok:Nat→Prop) (v:Value) (blk:Option Nat) (a:Am) (d:D):Prop:=
 match a with
 | .p=>pureD d=true∧blk=none∧RepV ty w ok v d
 | .g e=>∃ nb els k,d= .ov e nb els∧ty e=some k∧RowR ty w ok k v blk els nb
 | .m e=>∃ nb els k,d= .ov e nb els∧ty e=some k∧RowR ty w ok k v blk els nb
 | .v ks=>∃ cs,d= .pv cs∧VarR ty w ok ks v blk cs
def Js (ty:TypeId→Option Vk) (w:World) (ok:Nat→Prop) (v:Value) (blk:Option Nat) (a:Rm) (d:D):Prop:=
 match a with
 | .p k=>blk=none∧k.fits d=true∧RepV ty w ok v d
 | .o e=>∃ nb els k,d= .ov e nb els∧ty e=some k∧RowR ty w ok k v blk els nb
def lentA:Am→Bool | .m _=>true | .v _=>true |_=>false
def BackR (ty:TypeId→Option Vk) (w:World) (ok:Nat→Prop) (vs:Array Value) (blks:Nat→Option Nat):Nat→List Am→List D→Prop
 |_,[],ds=>ds=[]
 |i,a::as,ds=>match lentA a with
  |true=>match ds with
   |d::ds=>yj ty w ok (vs.getD i undef) (blks i) a d∧BackR ty w ok vs blks (i+1) as ds
   |[]=>False
  |false=>BackR ty w ok vs blks (i+1) as ds
def retV (vs:List Value):Value:=match vs with |[v]=>v |vs=> .tuple vs.toArray
structure Pre (ty:TypeId→Option Vk) (am:List Am) (l:List D) (w:World) (vs:Array Value) (blks:Nat→Option Nat) (X:Nat→Prop):Prop where
 sz:vs.size=am.length
 len:l.length=am.length
 args:∀ (i:Nat) (a:Am),am[i]? =some a→yj ty w (fun b=>b<w.heap.size∧ ¬X b∧∀ j,blks j≠some b) (vs.getD i undef) (blks i) a (l.getD i .undef)
 inj:∀ i j b,blks i=some b→blks j=some b→i=j
 blk:∀ i b,blks i=some b→i<am.length∧b<w.heap.size∧ ¬X b
 xlt:∀ b,X b→b<w.heap.size
abbrev okR (am:List Am) (blks:Nat→Option Nat) (X:Nat→Prop) (w':World) (rb:Nat→Option Nat):Nat→Prop:=
 fun b=>b<w'.heap.size∧ ¬X b∧(∀ j,rb j≠some b)∧∀ (j:Nat) (a:Am),am[j]? =some a→lentA a=true→blks j≠some b
structure Post (ty:TypeId→Option Vk) (am:List Am) (rm:List Rm) (rs:List D) (w:World) (vs:Array Value) (blks:Nat→Option Nat) (X:Nat→Prop) (w':World) (rv:List Value) (rb:Nat→Option Nat):Prop where
 len:rv.length=rm.length
 rlen:rm.length≤rs.length
 res:∀ (i:Nat) (m:Rm),rm[i]? =some m→Js ty w' (okR am blks X w' rb) (rv.getD i undef) (rb i) m (rs.getD i .undef)
 back:BackR ty w' (okR am blks X w' rb) vs blks 0 am (rs.drop rm.length)
 rblk:∀ i b,rb i=some b→i<rm.length∧b<w'.heap.size∧ ¬X b∧(w.heap.size≤b∨∃ (j:Nat) (e:TypeId),am[j]? =some (.g e)∧blks j=some b)
 rinj:∀ i j b,rb i=some b→rb j=some b→i=j
 tape:w'.tape=w.tape
 os:w'.os=w.os
 out:w'.output=w.output
 size:w.heap.size≤w'.heap.size
 frame:∀ b,b<w.heap.size→(∀ j,blks j≠some b)→w'.heap[b]? =w.heap[b]?
def SoundAt (P:Program) (ty:TypeId→Option Vk) (g:FuncId) (sg:BK) (f:List D→Option (List D)):Prop:=
 ∀ l rs,f l=some rs→∀ (w:World) (vs:Array Value) (blks:Nat→Option Nat) (X:Nat→Prop),Pre ty sg.am l w vs blks X→
  Calls P g vs w fun
   | .returned v,w'=>∃ rv rb,v=retV rv∧Post ty sg.am sg.rm rs w vs blks X w' rv rb
   |_,_=>False
def SoundCall (P:Program) (E:Env):Prop:=∀ g sg,E.sig g=some sg→SoundAt P E.ty g sg (E.call g)
section
variable {C:Cx} {P:Program} {E:Env} {tm:Array Value} {st:St} {G:Gh} {w:World} {ρ:Operand→Value} {o:Oper} {V:Vw}
theorem objRel_row {os:List Obj} {id:Nat} {e:TypeId} {nb:Bool} {els:List D}:ObjRel C os G w id (.arr e nb els)↔∃ k,C.ty e=some k∧RowR C.ty w (okB C os G w) k (G id).1 (G id).2 els nb:=by
 constructor
 ·rintro⟨k,xs,h1,h2,h3,h4⟩
  exact⟨k,h1,xs,h2,h3,h4⟩
 ·rintro⟨k,h1,xs,h2,h3,h4⟩
  exact⟨k,xs,h1,h2,h3,h4⟩
inductive Cn (C:Cx) (hU:List Obj) (G G2:Gh) (w w':World) (H:Nat→Prop) (id:Nat) (o o':Obj):Prop
 |same (h1:o'=o) (h2:G2 id=G id) (h3:live o=true→∀ b,(G id).2=some b→ ¬H b)
 |gone (h1:o'= .gone) (h2:isDead o=false)
 |wu (h1:live o=true) (h2:G2 id=G id) (h3:oSh o'=oSh o) (h4:isDead o'=false) (h5:∀ i,i∈refsO o'→isDead (hU.getD i .gone)=false) (h6:ObjRel C hU G2 w' id o') (h7:∀ b,(G id).2=some b→H b)
 |site (h1:o= .dead) (h2:isDead o'=false) (h3:refsO o'=[]) (h4:ObjRel C hU G2 w' id o') (h5:∀ b,(G2 id).2=some b→(w.heap.size≤b∨H b)∧b<w'.heap.size)
theorem D0 {os hU:List Obj} {G2:Gh} {w':World} {H:Nat→Prop} (hlen:hU.length=os.length) (hH:∀ b,H b→LB os G b)
  (hcl:∀ id o o',os[id]? =some o→hU[id]? =some o'→Cn C hU G G2 w w' H id o o') {b:Nat} (h:LB hU G2 b):LB os G b∨(w.heap.size≤b∧b<w'.heap.size):=by
 obtain⟨id,o',h1,h2,h3⟩:=h
 have hlt:id<os.length:=by rw[←hlen];exact (zq6.1 h1).1
 rcases hcl id os[id] o' (zq4 hlt) h1 with⟨t1,t2,t3⟩ |⟨t1,t2⟩ |⟨t1,t2,t3,t4,t5,t6,t7⟩ |⟨t1,t2,t3,t4,t5⟩
 ·subst t1
  exact .inl ⟨id,_,zq4 hlt,h2,by rw[←t2];exact h3⟩
 ·subst t1
  cases h2
 ·exact .inl ⟨id,_,zq4 hlt,t1,by rw[←t2];exact h3⟩
 ·obtain⟨h5,h6⟩:=t5 b h3
  rcases h5 with h5 |h5
  ·exact .inr ⟨h5,h6⟩
  ·exact .inl (hH b h5)
theorem Rel.many {ts:List D} {os hU:List Obj} (h:Rel C tm ⟨ts,os⟩ G w) {G2:Gh} {w':World} (hlen:hU.length=os.length) (H:Nat→Prop) (hH:∀ b,H b→LB os G b)
  (hcl:∀ id o o',os[id]? =some o→hU[id]? =some o'→Cn C hU G G2 w w' H id o o')
  (Hy:∀ i j oi oj b,os[i]? =some .dead→hU[i]? =some oi→hU[j]? =some oj→live oi=true→live oj=true→(G2 i).2=some b→(G2 j).2=some b→i=j)
  (hsame:∀ b,b<w.heap.size→ ¬H b→w'.heap[b]? =w.heap[b]?) (hsz:w.heap.size≤w'.heap.size) (ht:w'.tape=w.tape) (hos:w'.os=w.os) (hout:w'.output=w.output):Rel C tm ⟨ts,hU⟩ G2 w':=by
 have hLB:=fun (b:Nat) (hb:LB hU G2 b)=>D0 (C:=C) (w:=w) (w':=w') hlen hH hcl hb
 have hok:∀ b,okB C os G w b→okB C hU G2 w' b:=by
  rintro b ⟨b1,b2,b3⟩
  refine⟨by omega,fun hb=> ?_,b3⟩
  rcases hLB b hb with h' |h'
  ·exact b2 h'
  ·omega
 have hS:Same (okB C os G w) w w':=fun b hb=>hsame b hb.1 fun h2=>hb.2.1 (hH b h2)
 have get:∀ id o',hU[id]? =some o'→∃ o,os[id]? =some o∧Cn C hU G G2 w w' H id o o':=by
  intro id o' ho
  have hlt:id<os.length:=by rw[←hlen];exact (zq6.1 ho).1
  exact⟨os[id],zq4 hlt,hcl id _ o' (zq4 hlt) ho⟩
 have jG:∀ i,isDead (os.getD i .gone)=false→((oAt hU i=oAt os i∧G2 i=G i)∨oAt hU i= .no)∧isDead (hU.getD i .gone)=false:=by
  intro i hi
  rcases Nat.lt_or_ge i os.length with hlt |hge
  ·have gL:i<hU.length:=by rw[hlen];exact hlt
   have e1:os.getD i .gone=os[i]:=by simp[zq1,hlt]
   have e2:hU.getD i .gone=hU[i]:=by simp[zq1,gL]
   rw[e1]at hi
   rw[e2,oAt_of (zq4 hlt),oAt_of (zq4 gL)]
   rcases hcl i _ _ (zq4 hlt) (zq4 gL)with⟨t1,t2,t3⟩ |⟨t1,t2⟩ |⟨t1,t2,t3,t4,t5,t6,t7⟩ |⟨t1,t2,t3,t4,t5⟩
   ·rw[t1];exact⟨.inl ⟨rfl,t2⟩,hi⟩
   ·rw[t1];exact⟨.inr rfl,rfl⟩
   ·exact⟨.inl ⟨t3,t2⟩,t4⟩
   ·rw[t1]at hi;cases hi
  ·have e2:hU[i]? =none:=List.getElem?_eq_none (by omega)
   exact⟨.inr (by simp[oAt,zq1,e2,oSh]),by simp[zq1,e2,isDead]⟩
 exact {
  tsz:=h.tsz
  ts:=fun j d hj=>(h.ts j d hj).mono hok hS fun i hi=>(jG i (h.rT j d hj i hi)).1
  os:=by
   intro id o' ho
   obtain⟨o,h1,ht⟩:=get id o' ho
   rcases ht with⟨t1,t2,t3⟩ |⟨t1,t2⟩ |⟨t1,t2,t3,t4,t5,t6,t7⟩ |⟨t1,t2,t3,t4,t5⟩
   ·subst t1
    refine (h.os id o' h1).mono hok hS (fun i hi=>(jG i (h.rO id o' h1 i hi)).1) t2 ?_
    intro hl b hb
    exact hsame b (h.inX b ⟨id,o',h1,hl,hb⟩).2.1 (t3 hl b hb)
   ·subst t1;trivial
   ·exact t6
   ·exact t4
  inj:=by
   intro i j oi oj b hi hj hli hlj hbi hbj
   obtain⟨pi,D1,LY⟩:=get i oi hi
   obtain⟨pj,uB,I_⟩:=get j oj hj
   by_cases di:pi= .dead
   ·subst di
    exact Hy i j oi oj b D1 hi hj hli hlj hbi hbj
   ·by_cases dj:pj= .dead
    ·subst dj
     exact (Hy j i oj oi b uB hj hi hlj hli hbj hbi).symm
    ·have key:∀ (n:Nat) (p q:Obj),os[n]? =some p→Cn C hU G G2 w w' H n p q→p≠ .dead→live q=true→live p=true∧G2 n=G n:=by
      intro n p q hp ht hd hl
      rcases ht with⟨t1,t2,t3⟩ |⟨t1,t2⟩ |⟨t1,t2,t3,t4,t5,t6,t7⟩ |⟨t1,t2,t3,t4,t5⟩
      ·subst t1;exact⟨hl,t2⟩
      ·subst t1;cases hl
      ·exact⟨t1,t2⟩
      ·exact absurd t1 hd
     obtain⟨a1,a2⟩:=key i pi oi D1 LY di hli
     obtain⟨b1,b2⟩:=key j pj oj uB I_ dj hlj
     rw[a2]at hbi
     rw[b2]at hbj
     exact h.inj i j pi pj b D1 uB a1 b1 hbi hbj
  inX:=by
   intro b hb
   rcases hLB b hb with h' |h'
   ·have:=h.inX b h'
    exact⟨this.1,by omega,this.2.2⟩
   ·refine⟨fun hx=> ?_,h'.2,fun hb=> ?_⟩
    ·have:=h.xw b hx
     have:=h.size
     omega
    ·have:=h.size
     omega
  rT:=fun j d hj i hi=>(jG i (h.rT j d hj i hi)).2
  rO:=by
   intro j o' hj i hi
   obtain⟨o,h1,ht⟩:=get j o' hj
   rcases ht with⟨t1,t2,t3⟩ |⟨t1,t2⟩ |⟨t1,t2,t3,t4,t5,t6,t7⟩ |⟨t1,t2,t3,t4,t5⟩
   ·subst t1
    exact (jG i (h.rO j o' h1 i hi)).2
   ·subst t1;simp[refsO]at hi
   ·exact t5 i hi
   ·rw[t3]at hi;cases hi
  tape:=ht.trans h.tape
  osw:=hos.trans h.osw
  out:=hout.trans h.out
  size:=by have:=h.size;omega
  frame:=by
   intro b hb hM
   have Hb:=h.size
   rw[hsame b (by omega) fun h2=>hM ((h.inX b (hH b h2)).2.2 hb)]
   exact h.frame b hb hM
  xw:=h.xw}
end
end
section
theorem wrL_len:∀ (ws:Wr) (os:List Obj),(wrL os ws).length=os.length
 |[],os=>rfl
 |(i,o)::ws,os=>by rw[wrL,wrL_len ws];simp
theorem wrL_not {i:Nat}:∀ (ws:Wr) (os:List Obj),(∀ p,p∈ws→p.1≠i)→(wrL os ws)[i]? =os[i]?
 |[],os,_=>rfl
 |(j,o)::ws,os,h=>by
  rw[wrL,wrL_not ws _ fun p hp=>h p (List.mem_cons_of_mem _ hp),List.getElem?_set]
  have:j≠i:=h (j,o) (List.mem_cons_self ..)
  rw[if_neg this]
theorem wrL_mem:∀ (ws:Wr) (os:List Obj) (p:Nat×Obj),(∀ q r,q∈ws→r∈ws→q.1=r.1→q.2=r.2)→p∈ws→p.1<os.length→(wrL os ws)[p.1]? =some p.2
 |[],os,p,_,hp,_=>by cases hp
 |(j,o)::ws,os,p,h,hp,hl=>by
  rw[wrL]
  by_cases hin:∃ q,q∈ws∧q.1=p.1
  ·obtain⟨q,h1,h2⟩:=hin
   have h3:=wrL_mem ws (os.set j o) q (fun a b ha hb=>h a b (List.mem_cons_of_mem _ ha) (List.mem_cons_of_mem _ hb)) h1 (by simp;omega)
   rw[←h2,h3,h q p (List.mem_cons_of_mem _ h1) hp h2]
  ·rw[wrL_not ws _ fun q hq e=>hin ⟨q,hq,e⟩]
   rcases List.mem_cons.1 hp with rfl |hp
   ·simp[hl]
   ·exact absurd ⟨p,hp,rfl⟩ hin
theorem nodupB_cons {x:Nat} {xs:List Nat} (h:nodupB (x::xs)=true):x∉xs∧nodupB xs=true:=by
 simpa[nodupB]using h
theorem m_:∀ {xs:List Nat},nodupB xs=true→∀ {i j x:Nat},xs[i]? =some x→xs[j]? =some x→i=j
 |[],_,i,j,x,hi,_=>by simp at hi
 |y::ys,h,i,j,x,hi,hj=>by
  obtain⟨h1,h2⟩:=nodupB_cons h
  cases i with
  |zero=>
   cases j with
   |zero=>rfl
   |succ j=>
    simp at hi hj
    subst hi
    exact absurd (List.mem_iff_getElem?.2 ⟨j,hj⟩) h1
  |succ i=>
   cases j with
   |zero=>
    simp at hi hj
    subst hj
    exact absurd (List.mem_iff_getElem?.2 ⟨i,hi⟩) h1
   |succ j=>
    simp at hi hj
    rw[m_ h2 hi hj]
def fb (am:List Am) (dd:List D) (i:Nat):Option Nat:=(am[i]?).bind fun a=>bv a (dd.getD i .undef)
theorem jJ (a:Am) (am:List Am) (d:D) (dd:List D):fb (a::am) (d::dd) 0=bv a d:=rfl
theorem im (a:Am) (am:List Am) (d:D) (dd:List D) (i:Nat):fb (a::am) (d::dd) (i+1)=fb am dd i:=by simp[fb]
theorem na {V:Vw}:∀ {am:List Am} {dd l:List D},pB V am dd=some l→l.length=am.length∧dd.length=am.length∧∀ (i:Nat) (a:Am),am[i]? =some a→b_ V a (dd.getD i .undef)=some (l.getD i .undef)
 |[],[],l,h=>by
  simp[pB]at h
  subst h
  exact⟨rfl,rfl,fun i a hi=>by simp at hi⟩
 |a::am,d::dd,l,h=>by
  simp only[pB]at h
  split at h
  ·rename_i x hx
   split at h
   ·rename_i l' hl
    cases h
    obtain⟨h1,h2,h3⟩:=na hl
    refine⟨by simp[h1],by simp[h2],fun i b hi=> ?_⟩
    cases i with
    |zero=>simp at hi;subst hi;simpa using hx
    |succ i=>simpa using h3 i b (by simpa using hi)
   ·cases h
  ·cases h
 |[],_::_,_,h=>by simp[pB]at h
 |_::_,[],_,h=>by simp[pB]at h
theorem uH:∀ {am:List Am} {dd:List D} {i id:Nat},am.length=dd.length→fb am dd i=some id→id∈dB am dd
 |[],_,i,id,_,h=>by simp[fb]at h
 |a::am,[],i,id,hl,h=>by simp at hl
 |a::am,d::dd,i,id,hl,h=>by
  cases i with
  |zero=>
   rw[jJ]at h
   simp[dB,h]
  |succ i=>
   rw[im]at h
   have:=uH (by simpa using hl) h
   simp only[dB]
   split
   ·exact List.mem_cons_of_mem _ this
   ·exact this
theorem o_:∀ {am:List Am} {dd:List D} {i j id:Nat},am.length=dd.length→nodupB (dB am dd)=true→fb am dd i=some id→fb am dd j=some id→i=j
 |[],_,i,j,id,_,_,h,_=>by simp[fb]at h
 |a::am,[],i,j,id,hl,_,_,_=>by simp at hl
 |a::am,d::dd,i,j,id,hl,hn,hi,hj=>by
  have D2:am.length=dd.length:=by simpa using hl
  have hrest:nodupB (dB am dd)=true∧∀ x,bv a d=some x→x∉dB am dd:=by
   simp only[dB]at hn
   split at hn
   ·rename_i x hx
    obtain⟨h1,h2⟩:=nodupB_cons hn
    exact⟨h2,fun y hy=>by rw[hx]at hy;cases hy;exact h1⟩
   ·rename_i hx
    exact⟨hn,fun y hy=>by rw[hx]at hy;cases hy⟩
  cases i with
  |zero=>
   cases j with
   |zero=>rfl
   |succ j=>
    rw[jJ]at hi
    rw[im]at hj
    exact absurd (uH D2 hj) (hrest.2 id hi)
  |succ i=>
   cases j with
   |zero=>
    rw[jJ]at hj
    rw[im]at hi
    exact absurd (uH D2 hi) (hrest.2 id hj)
   |succ j=>
    rw[im]at hi hj
    rw[o_ D2 hrest.1 hi hj]
theorem Co:∀ {am:List Am} {dd:List D},am.length=dd.length→∀ {p:Nat×Obj},p∈dC am dd↔p.2= .gone∧∃ (i:Nat) (e:TypeId),am[i]? =some (.g e)∧fb am dd i=some p.1
 |[],[],_,p=>by simp[dC]
 |a::am,[],hl,p=>by simp at hl
 |[],_::_,hl,p=>by simp at hl
 |a::am,d::dd,hl,p=>by
  have ih:=Co (am:=am) (dd:=dd) (by simpa using hl) (p:=p)
  have step:(p.2= .gone∧∃ (i:Nat) (e:TypeId),(a::am)[i]? =some (.g e)∧fb (a::am) (d::dd) i=some p.1)↔
    ((p.2= .gone∧∃ e,a= .g e∧bv a d=some p.1)∨p.2= .gone∧∃ (i:Nat) (e:TypeId),am[i]? =some (.g e)∧fb am dd i=some p.1):=by
   constructor
   ·rintro⟨h0,i,e,h1,h2⟩
    cases i with
    |zero=>simp at h1;rw[jJ]at h2;exact .inl ⟨h0,e,h1,h2⟩
    |succ i=>rw[im]at h2;exact .inr ⟨h0,i,e,by simpa using h1,h2⟩
   ·rintro (⟨h0,e,h1,h2⟩ |⟨h0,i,e,h1,h2⟩)
    ·exact⟨h0,0,e,by simp[h1],by rw[jJ];exact h2⟩
    ·exact⟨h0,i+1,e,by simpa using h1,by rw[im];exact h2⟩
  rw[step,←ih]
  have other:(∀ e,a≠ .g e)∨(∀ e id n,d≠ .own e id n)→(dC (a::am) (d::dd)=dC am dd∧ ¬∃ e,a= .g e∧bv a d=some p.1):=by
   rintro (h |h)
   ·refine⟨?_,fun ⟨e,h1,_⟩=>h e h1⟩
    cases a<;>first |rfl |exact absurd rfl (h _)
   ·refine⟨?_, ?_⟩
    ·cases a<;>first |rfl |(cases d<;>first |rfl |exact absurd rfl (h _ _ _))
    ·rintro⟨e,rfl,h2⟩
     cases d<;>first |exact absurd rfl (h _ _ _) |(simp[bv]at h2)
  by_cases ha:∃ e,a= .g e
  ·obtain⟨e,rfl⟩:=ha
   by_cases hd:∃ e' id n,d= .own e' id n
   ·obtain⟨e',id,n,rfl⟩:=hd
    show p∈(id,.gone)::dC am dd↔_
    simp only[List.mem_cons,bv,zq5]
    constructor
    ·rintro (rfl |h)
     ·exact .inl ⟨rfl,e,rfl,rfl⟩
     ·exact .inr h
    ·rintro (⟨h0,e2,_,h2⟩ |h)
     ·left
      cases p
      simp_all
     ·exact .inr h
   ·obtain⟨h1,h2⟩:=other (.inr fun e' id n he=>hd ⟨e',id,n,he⟩)
    rw[h1]
    exact⟨.inr,fun h=>h.resolve_left fun ⟨_,h⟩=>h2 h⟩
  ·obtain⟨h1,h2⟩:=other (.inl fun e he=>ha ⟨e,he⟩)
   rw[h1]
   exact⟨.inr,fun h=>h.resolve_left fun ⟨_,h⟩=>h2 h⟩
end
section
theorem tC {V:Vw}:∀ {cs:List D} {q:Nat×Obj},q∈(frzL V cs).2→q.1∈refsL cs
 |[],q,h=>by simp[frzL]at h
 |d::ds,q,h=>by
  simp only[frzL,List.mem_append]at h
  have h0:∀ {d:D} {q:Nat×Obj},q∈(cA V d).2→q.1∈refs0 d:=by
   intro d q h
   cases d with
   |own e id n=>simp only[cA]at h;split at h<;>simp_all [refs0,refsb]
   |ownv e id o n=>simp only[cA]at h;split at h<;>simp_all [refs0,refsb]
   |_=>simp[cA]at h
  rcases h with h |h
  ·exact List.mem_flatMap.2 ⟨d,List.mem_cons_self ..,h0 h⟩
  ·have:=tC h
   obtain⟨x,h1,h2⟩:=List.mem_flatMap.1 this
   exact List.mem_flatMap.2 ⟨x,List.mem_cons_of_mem _ h1,h2⟩
theorem frz_keys {V:Vw} {d:D} {q:Nat×Obj} (h:q∈(frz V d).2):q.1∈refsD d:=by
 cases d with
 |agg cs=>exact tC h
 |ptr id off=>simp only[frz]at h;split at h<;>simp_all [refsD,refs1,refs0]
 |own e id n=>simp only[frz,cA]at h;split at h<;>simp_all [refsD,refs1,refs0,refsb]
 |ownv e id o n=>simp only[frz,cA]at h;split at h<;>simp_all [refsD,refs1,refs0,refsb]
 |_=>simp[frz,cA]at h
theorem uI {V:Vw}:∀ {am:List Am} {dd:List D} {q:Nat×Obj},q∈cr V am dd→q.1∈oO am dd
 |[],_,q,h=>by simp[cr]at h
 |a::am,[],q,h=>by cases a<;>simp[cr]at h
 |a::am,d::dd,q,h=>by
  cases a<;>simp only[cr,oO]at h⊢
  ·rcases List.mem_append.1 h with h |h
   ·exact List.mem_append.2 (.inl (frz_keys h))
   ·exact List.mem_append.2 (.inr (uI h))
  all_goals exact uI h
section
variable {C:Cx} {P:Program} {E:Env} {tm:Array Value} {st:St} {G:Gh} {w:World} {ρ:Operand→Value} {o:Oper} {V:Vw}
theorem Cp {ts:List D} {os0:List Obj} (hV:∀ id o,V id=o→o≠ .dead→os0[id]? =some o):∀ (am:List Am) (dd:List D) (os:List Obj),am.length=dd.length→Rel C tm ⟨ts,os⟩ G w→Fz os0 os→∀ (vs:Nat→Value),(∀ j,j<dd.length→RepT C os G w (vs j) (dd.getD j .undef))→
  (∀ (i:Nat),am[i]? =some .p→pureD (frz V (dd.getD i .undef)).1=true)→oT C tm ts os0 os G w (cr V am dd)∧
   ∀ (i:Nat),am[i]? =some .p→RepV C.ty w (okB C (wrL os (cr V am dd)) G w) (vs i) (frz V (dd.getD i .undef)).1
 |[],[],os,hl,h,hz,vs,hd,hp=>⟨.nil h hz,fun i hi=>by simp at hi⟩
 |a::am,d::dd,os,hl,h,hz,vs,hd,hp=>by
  have D2:am.length=dd.length:=by simpa using hl
  by_cases ha:a= .p
  ·subst ha
   have hp0:=hp 0 rfl
   rw[List.getD_cons_zero]at hp0
   obtain⟨h1,h2⟩:=xX hV h hz (by simpa using hd 0 (by simp)) hp0
   obtain⟨h3,h4⟩:=Cp hV am dd (wrL os (frz V d).2) D2 h1.rel h1.fz (fun j=>vs (j+1)) (fun j hj=>by
    have:=hd (j+1) (by simpa using hj)
    simp only[List.getD_cons_succ]at this
    exact this.mono h1.ok (fun _ _=>rfl) fun id _=> .inl ⟨h1.sh id,rfl⟩) (fun i hi=>by have:=hp (i+1) (by simpa using hi);rwa [List.getD_cons_succ]at this)
   refine⟨h1.append h3,fun i hi=> ?_⟩
   simp only[cr,bO]
   cases i with
   |zero=>exact h2.mono h3.ok (fun _ _=>rfl)
   |succ i=>simpa using h4 i (by simpa using hi)
  ·have e:cr V (a::am) (d::dd)=cr V am dd:=by cases a<;>first |rfl |exact absurd rfl ha
   rw[e]
   obtain⟨h3,h4⟩:=Cp hV am dd os D2 h hz (fun j=>vs (j+1)) (fun j hj=>by
    have:=hd (j+1) (by simpa using hj)
    simpa using this) (fun i hi=>by have:=hp (i+1) (by simpa using hi);rwa [List.getD_cons_succ]at this)
   refine⟨h3,fun i hi=> ?_⟩
   cases i with
   |zero=>simp at hi;exact absurd hi ha
   |succ i=>simpa using h4 i (by simpa using hi)
 |[],_::_,os,hl,_,_,_,_,_=>by simp at hl
 |_::_,[],os,hl,_,_,_,_,_=>by simp at hl
theorem yk {ok:Nat→Prop} {v:Value} {d:D} (h:RepV C.ty w ok v d):refs0 d=[]:=by
 cases h<;>rfl
theorem repV_refs {ok:Nat→Prop} {v:Value} {d:D} (h:RepV C.ty w ok v d):refsD d=[]:=by
 cases h with
 |agg cs ds hs hrep=>
  simp only[refsD,refs1,refsL,List.flatMap_eq_nil_iff]
  intro d hd
  obtain⟨j,hj,rfl⟩:=List.getElem_of_mem hd
  have:=hrep j hj
  rw[zq1 (l:=ds),zq4 hj]at this
  exact yk this
 |_=>rfl
theorem rd {V:Vw}:∀ {cs:List D},(frzL V cs).1.all pure0=true→∀ d,d∈cs→pure0 (cA V d).1=true
 |[],_,d,hd=>by cases hd
 |c::cs,h,d,hd=>by
  simp only[frzL,List.all_cons,zq3]at h
  rcases List.mem_cons.1 hd with rfl |hd
  ·exact h.1
  ·exact rd h.2 d hd
theorem D3 {os:List Obj} {v:Value} {d x:D} {a:Am} (h:RepV C.ty w (okB C os G w) v d) (ho:b_ V a d=some x):RepT C os G w v d:=by
 cases h with
 |agg cs ds hs hrep=>
  cases a with
  |p=>
   simp only[b_]at ho
   split at ho
   ·rename_i hp
    refine⟨cs,rfl,hs,fun j hj=> ?_⟩
    have hm:=rd hp _ (mem_getD hj)
    have:=hrep j hj
    generalize ds.getD j .undef=c at hm this⊢
    generalize cs.getD j undef=u at this⊢
    cases this<;>first |(simp[cA,pure0]at hm;done) |skip
    all_goals first |exact .int _ _ |exact .bool _ |exact .str _ |exact .slnil _ |exact .zsnil _ |exact .nilfn |skip
    ·exact .sl _ _ _ _ _ _ ‹_› ‹_› ‹_› ‹_› ‹_› ‹_› ‹_›
    ·exact .zs _ _ _ ‹_› ‹_›
    ·exact .fn _ _ _ ‹_› ‹_›
    ·exact .rp _ _ _ _ ‹_› ‹_› ‹_› ‹_›
    ·exact .mpl _ _ _ _ _ ‹_› ‹_› ‹_› ‹_› ‹_› ‹_› ‹_›
   ·cases ho
  |_=>simp[b_]at ho
 |int k n=>exact .int _ _
 |bool b=>exact .bool _
 |str s=>exact .str _
 |slnil e=>exact .slnil _
 |zsnil e=>exact .zsnil _
 |nilfn=>exact .nilfn
 |sl e ad c els k cs hk hsp hc hf hok hcell hrep=>exact .sl e ad c els k cs hk hsp hc hf hok hcell hrep
 |zs e ad k hk hsp=>exact .zs e ad k hk hsp
 |fn f caps dc hs hrep=>exact .fn f caps dc hs hrep
 |rp b cs off vals hp hok hcell hrep=>exact .rp b cs off vals hp hok hcell hrep
 |mpl b es clock ks vs hb hh hs hv hbo hk hvv=>exact .mpl b es clock ks vs hb hh hs hv hbo hk hvv
theorem l7 {ok sK:Nat→Prop} {ty:TypeId→Option Vk} {w w':World} {s:Sk} {v:Value} {d:D} (h:RepV ty w ok v d) (hf:GD.fits s d=true) (hs:s.jq=true):RepV ty w' sK v d:=by
 cases s with
 |sl e=>cases hs
 |GJ f=>cases hs
 |int k=>cases d<;>simp[GD.fits]at hf;cases h;exact .int _ _
 |bool=>cases d<;>simp[GD.fits]at hf;cases h;exact .bool _
 |str=>cases d<;>simp[GD.fits]at hf;cases h;exact .str _
 |fn=>
  cases d<;>simp[GD.fits]at hf
  subst hf
  cases h with
  |fn _ caps _ hs _=>exact .fn _ caps [] hs (fun j hj=>absurd hj (Nat.not_lt_zero j))
 |IA f=>
  cases d<;>simp[GD.fits]at hf
  obtain⟨rfl,rfl⟩:=hf
  cases h with
  |fn _ caps _ hs _=>exact .fn _ caps [] hs (fun j hj=>absurd hj (Nat.not_lt_zero j))
theorem all_get {α:Type} {p:α→Bool} {l:List α} (h:l.all p=true) {i:Nat} {x:α} (hi:l[i]? =some x):p x=true:=
 List.all_eq_true.1 h x (List.mem_of_getElem? hi)
theorem Cq {ok sK:Nat→Prop} {ty:TypeId→Option Vk} {w w':World} {k:Vk} {v:Value} {d:D} (h:RepV ty w ok v d) (hf:k.fits d=true) (hs:k.ks.all Sk.jq=true):RepV ty w' sK v d:=by
 rcases Vk.cB hf with⟨hk,ds,rfl,hl⟩ |⟨hk,h1,hp,hn⟩
 ·cases h with
  |agg cs ds hs2 hrep=>
   refine .agg cs ds hs2 (fun j hj=> ?_)
   have hj':j<k.ks.length:=by omega
   have:=Vk.cg hf j k.ks[j] (zq4 hj')
   exact l7 (hrep j hj) this (all_get hs (zq4 hj'))
 ·simp only[Vk.fits,hk]at hf
  obtain⟨_,s,h2,h3⟩:=iA hf
  exact l7 h h3 (all_get hs h2)
theorem Cr {ok sK:Nat→Prop} {ty:TypeId→Option Vk} {w:World} {k:Vk} {v:Value} {blk:Option Nat} {els:List D} {nb:Bool} (h:RowR ty w ok k v blk els nb) (hs:k.ks.all Sk.jq=true):RowR ty w sK k v blk els nb:=by
 obtain⟨xs,h1,h2,h3⟩:=h
 refine⟨xs,h1,h2,fun i j hi hj=> ?_⟩
 exact l7 (h3 i j hi hj) (Vk.cg (h2 _ (mem_getD hi)) j k.ks[j] (zq4 hj)) (all_get hs (zq4 hj))
theorem RowR.mono {ok sK:Nat→Prop} {ty:TypeId→Option Vk} {w:World} {k:Vk} {v:Value} {blk:Option Nat} {els:List D} {nb:Bool} (h:RowR ty w ok k v blk els nb) (hok:∀ b,ok b→sK b):RowR ty w sK k v blk els nb:=by
 obtain⟨xs,h1,h2,h3⟩:=h
 exact⟨xs,h1,h2,fun i j hi hj=>(h3 i j hi hj).mono hok (fun _ _=>rfl)⟩
theorem VarR.mono {ok sK:Nat→Prop} {ty:TypeId→Option Vk} {w:World} {ks:List Sk} {v:Value} {blk:Option Nat} {cs:List D} (h:VarR ty w ok ks v blk cs) (hok:∀ b,ok b→sK b):VarR ty w sK ks v blk cs:=by
 obtain⟨h1,g,cells,t,h2,h3,h4,h5,h6⟩:=h
 exact⟨h1,g,cells,t,h2,h3,h4,h5,fun j hj=>(h6 j hj).mono hok (fun _ _=>rfl)⟩
theorem fitsL_get {ks:List Sk} {cs:List D} (h:fitsL ks cs=true) {j:Nat} (hj:j<cs.length):∃ s,ks[j]? =some s∧GD.fits s (cs.getD j .undef)=true:=by
 obtain⟨h1,h2⟩:=fitsL_spec h
 have hj':j<ks.length:=by omega
 exact⟨ks[j],zq4 hj',h2 j _ (zq4 hj')⟩
theorem row_len {ok sK:Nat→Prop} {ty LZ:TypeId→Option Vk} {w w':World} {k k':Vk} {v:Value} {blk blk':Option Nat} {els els':List D} {nb nb':Bool} (h:RowR ty w ok k v blk els nb) (h':RowR LZ w' sK k' v blk' els' nb'):els.length=els'.length:=by
 obtain⟨xs,⟨_,h1⟩,_⟩:=h
 obtain⟨ys,⟨_,h2⟩,_⟩:=h'
 rcases h1 with⟨_,a1,a,a2,_⟩ |⟨_,g,cap,cur,t,_,a2,_⟩<;>rcases h2 with⟨_,b1,b,b2,_⟩ |⟨_,g',Je,L0,t',_,b2,_⟩<;>
  (rw[a2]at b2;simp only[Value.slice.injEq]at b2;omega)
theorem pb {rs:List D}:∀ (rm:List Rm) (n:Nat) (ss:List Nat),ss.length=rm.length→(aS rs n rm ss).1.length=rm.length∧
  (∀ (i:Nat) (k:Vk),rm[i]? =some (.p k)→(aS rs n rm ss).1.getD i .undef=etaV k (rs.getD (n+i) .undef) 0)∧
  (∀ (i:Nat) (e:TypeId) (s:Nat),rm[i]? =some (.o e)→ss[i]? =some s→(aS rs n rm ss).1.getD i .undef= .own e s (rs.getD (n+i) .undef).els.length)∧
  ∀ p:Nat×Obj,p∈(aS rs n rm ss).2↔∃ (i:Nat) (e:TypeId),rm[i]? =some (.o e)∧ss[i]? =some p.1∧p.2= .arr e (rs.getD (n+i) .undef).nb (rs.getD (n+i) .undef).els
 |[],n,[],_=>⟨rfl,fun i k h=>by simp at h,fun i e s h=>by simp at h,fun p=>by simp[aS]⟩
 | .p k::rm,n,s::ss,hl=>by
  obtain⟨h1,h2,h3,h4⟩:=pb (rs:=rs) rm (n+1) ss (by simpa using hl)
  refine⟨by simp[aS,h1],fun i k' hi=> ?_,fun i e s' hi hs=> ?_,fun p=> ?_⟩
  ·cases i with
   |zero=>simp at hi;subst hi;simp[aS]
   |succ i=>simpa[aS,show n+(i+1)=n+1+i by omega]using h2 i k' (by simpa using hi)
  ·cases i with
   |zero=>simp at hi
   |succ i=>simpa[aS,show n+(i+1)=n+1+i by omega]using h3 i e s' (by simpa using hi) (by simpa using hs)
  ·show p∈(aS rs (n+1) rm ss).2↔_
   rw[h4]
   constructor
   ·rintro⟨i,e,a1,a2,a3⟩
    exact⟨i+1,e,by simpa using a1,by simpa using a2,by rw[show n+(i+1)=n+1+i by omega];exact a3⟩
   ·rintro⟨i,e,a1,a2,a3⟩
    cases i with
    |zero=>simp at a1
    |succ i=>exact⟨i,e,by simpa using a1,by simpa using a2,by rw[show n+1+i=n+(i+1)by omega];exact a3⟩
 | .o e0::rm,n,s::ss,hl=>by
  obtain⟨h1,h2,h3,h4⟩:=pb (rs:=rs) rm (n+1) ss (by simpa using hl)
  refine⟨by simp[aS,h1],fun i k' hi=> ?_,fun i e s' hi hs=> ?_,fun p=> ?_⟩
  ·cases i with
   |zero=>simp at hi
   |succ i=>simpa[aS,show n+(i+1)=n+1+i by omega]using h2 i k' (by simpa using hi)
  ·cases i with
   |zero=>simp at hi hs;subst hi hs;simp[aS]
   |succ i=>simpa[aS,show n+(i+1)=n+1+i by omega]using h3 i e s' (by simpa using hi) (by simpa using hs)
  ·show p∈(s,_)::(aS rs (n+1) rm ss).2↔_
   rw[List.mem_cons,h4]
   constructor
   ·rintro (rfl |⟨i,e,a1,a2,a3⟩)
    ·exact⟨0,e0,rfl,rfl,rfl⟩
    ·exact⟨i+1,e,by simpa using a1,by simpa using a2,by rw[show n+(i+1)=n+1+i by omega];exact a3⟩
   ·rintro⟨i,e,a1,a2,a3⟩
    cases i with
    |zero=>
     left
     simp at a1 a2
     subst a1
     cases p
     simp_all
    |succ i=>exact .inr ⟨i,e,by simpa using a1,by simpa using a2,by rw[show n+1+i=n+(i+1)by omega];exact a3⟩
 |[],_,_::_,hl=>by simp at hl
 |_::_,_,[],hl=>by simp at hl
end
end
end Go.Proofs.Ytkfnkiejikhglaa.GD
