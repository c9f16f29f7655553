/- A value-level interpreter of the translated code, with the proof that it is sound: part 4. -/
import Derived.Test.YtkfnkiejikhglaaG3
set_option linter.unusedVariables false
set_option linter.unusedSimpArgs false
namespace Go.Proofs.Ytkfnkiejikhglaa.GD
open Go
section
theorem objs_spec {V:Vw} {G:Gh} {w:World} {vs:List D} (hV:∀ i cs,V i= .var cs→∀ d,d∈cs→cell0 d=true):∀ {ms:List (Nat×ObjM)} {l:List D} {ids:List Nat} (n:Nat),packObjs V ms=some (l,ids)→(∀ i,i<ms.length→vs.getD (n+i) .undef=l.getD i .undef)→
  l.length=ms.length∧ids.Perm ((objEnts V G w vs n ms).filterMap (·.src)++psRefs (objPs V G w ms))∧(objEnts V G w vs n ms).map (·.num)=objSites ms∧
  openObjs vs n ms=(objEnts V G w vs n ms).map (fun e=>(e.num,e.obj))∧
  (∀ (idx i:Nat) (e:TypeId),ms[idx]? =some (i,.a e)→∃ nb els,V i= .arr e nb els∧(⟨i,.arr e nb els,G i,some i⟩:Ent)∈objEnts V G w vs n ms)∧
  (∀ (idx i:Nat) (cm:List CellM),ms[idx]? =some (i,.v cm)→∃ cs xl nl,V i= .var cs∧packCells V cm cs=some (xl,nl)∧vs.getD (n+idx) .undef= .pv xl∧(⟨i,.var (openCells (vs.getD (n+idx) .undef) 0 cm).1,G i,some i⟩:Ent)∈objEnts V G w vs n ms∧
   (∀ x,x∈cellEnts V G (cellV w (G i).1) 0 cm cs→x∈objEnts V G w vs n ms)∧∀ p,p∈cellPs (cellV w (G i).1) 0 cm cs→p∈objPs V G w ms)∧
  (∀ x,x∈objEnts V G w vs n ms→(∃ (idx i:Nat) (e:TypeId) (nb:Bool) (els:List D),ms[idx]? =some (i,.a e)∧V i= .arr e nb els∧x=⟨i,.arr e nb els,G i,some i⟩)∨
   (∃ (idx i:Nat) (cm:List CellM) (cs:List D),ms[idx]? =some (i,.v cm)∧V i= .var cs∧(x=⟨i,.var (openCells (vs.getD (n+idx) .undef) 0 cm).1,G i,some i⟩∨x∈cellEnts V G (cellV w (G i).1) 0 cm cs))∨
   (∃ (idx i:Nat) (k e:Vk) (ks vs':List D),ms[idx]? =some (i,.m k e)∧V i= .mp k e ks vs'∧x=⟨i,.mp k e ks vs',G i,some i⟩))∧
  (∀ p,p∈objPs V G w ms→∃ (idx i:Nat) (cm:List CellM) (cs:List D),ms[idx]? =some (i,.v cm)∧V i= .var cs∧p∈cellPs (cellV w (G i).1) 0 cm cs)∧
  (∀ (idx i:Nat) (k e:Vk),ms[idx]? =some (i,.m k e)→∃ ks vs',V i= .mp k e ks vs'∧(⟨i,.mp k e ks vs',G i,some i⟩:Ent)∈objEnts V G w vs n ms)
 |[],l,ids,n,h,hv=>by
  simp[packObjs]at h
  obtain⟨rfl,rfl⟩:=h
  refine⟨rfl,.refl _,rfl,rfl,fun idx i e hi=>by simp at hi,fun idx i cm hi=>by simp at hi,fun x hx=>by simp[objEnts]at hx,fun p hp=>by simp[objPs]at hp,fun idx i k e hi=>by simp at hi⟩
 |(i,.a e)::ms,l,ids,n,h,hv=>by
  simp only[packObjs]at h
  split at h
  ·rename_i e' nb els l' n' hVi hr
   split at h
   ·rename_i hee
    subst hee
    simp only[zq5,Prod.mk.injEq]at h
    obtain⟨rfl,rfl⟩:=h
    obtain⟨h1,h2,h3,h4,h5,h6,h7,h8,h9⟩:=objs_spec (G:=G) (w:=w) (vs:=vs) hV (n+1) hr fun i hi=>by have:=hv (i+1) (by simpa using hi);rwa [show n+(i+1)=n+1+i by omega,List.getD_cons_succ]at this
    have hv0:=hv 0 (by simp)
    rw[Nat.add_zero,List.getD_cons_zero]at hv0
    have hE:objEnts V G w vs n ((i,.a e)::ms)=⟨i,.arr e nb els,G i,some i⟩::objEnts V G w vs (n+1) ms:=by
     simp only[objEnts,hv0,D.nb,D.els]
    rw[hE]
    refine⟨by simp[h1], ?_,by simp[objSites,h3],by simp only[openObjs,hv0,D.nb,D.els,h4,List.map_cons],fun idx i' e' hi=> ?_,fun idx i' cm hi=> ?_,fun x hx=> ?_,fun p hp=> ?_,fun idx i' k' e' hi=> ?_⟩
    ·simpa[objPs]using h2.cons i
    ·cases idx with
     |zero=>
      simp at hi
      obtain⟨rfl,rfl⟩:=hi
      exact⟨nb,els,hVi,List.mem_cons_self ..⟩
     |succ idx=>
      obtain⟨nb',els',a,b⟩:=h5 idx i' e' (by simpa using hi)
      exact⟨nb',els',a,List.mem_cons_of_mem _ b⟩
    ·cases idx with
     |zero=>simp at hi
     |succ idx=>
      obtain⟨cs,xl,nl,a,b,c,d,f,g⟩:=h6 idx i' cm (by simpa using hi)
      rw[show n+(idx+1)=n+1+idx by omega]
      exact⟨cs,xl,nl,a,b,c,List.mem_cons_of_mem _ d,fun x hx=>List.mem_cons_of_mem _ (f x hx),g⟩
    ·rcases List.mem_cons.1 hx with rfl |hx
     ·exact .inl ⟨0,i,e,nb,els,rfl,hVi,rfl⟩
     ·rcases h7 x hx with⟨idx,i',e',nb',els',a,b,c⟩ |⟨idx,i',cm,cs,a,b,c⟩ |⟨idx,i',k,e,ks,vs',a,b,c⟩
      ·exact .inl ⟨idx+1,i',e',nb',els',by simpa using a,b,c⟩
      ·exact .inr (.inl ⟨idx+1,i',cm,cs,by simpa using a,b,by rw[show n+(idx+1)=n+1+idx by omega];exact c⟩)
      ·exact .inr (.inr ⟨idx+1,i',k,e,ks,vs',by simpa using a,b,c⟩)
    ·obtain⟨idx,i',cm,cs,a,b,c⟩:=h8 p hp
     exact⟨idx+1,i',cm,cs,by simpa using a,b,c⟩
    ·cases idx with
     |zero=>simp at hi
     |succ idx=>
      obtain⟨ks,vs',a,b⟩:=h9 idx i' k' e' (by simpa using hi)
      exact⟨ks,vs',a,List.mem_cons_of_mem _ b⟩
   ·cases h
  ·cases h
 |(i,.m k e)::ms,l,ids,n,h,hv=>by
  simp only[packObjs]at h
  split at h
  ·rename_i k0 e0 ks vsm l' n' hVi hr
   split at h
   ·rename_i hee
    obtain⟨rfl,rfl⟩:=hee
    simp only[zq5,Prod.mk.injEq]at h
    obtain⟨rfl,rfl⟩:=h
    obtain⟨h1,h2,h3,h4,h5,h6,h7,h8,h9⟩:=objs_spec (G:=G) (w:=w) (vs:=vs) hV (n+1) hr fun i hi=>by have:=hv (i+1) (by simpa using hi);rwa [show n+(i+1)=n+1+i by omega,List.getD_cons_succ]at this
    have hv0:=hv 0 (by simp)
    rw[Nat.add_zero,List.getD_cons_zero]at hv0
    have hE:objEnts V G w vs n ((i,.m k0 e0)::ms)=⟨i,.mp k0 e0 ks vsm,G i,some i⟩::objEnts V G w vs (n+1) ms:=by
     simp only[objEnts,hv0,D.mks,D.mvs]
    rw[hE]
    refine⟨by simp[h1], ?_,by simp[objSites,h3],by simp only[openObjs,hv0,D.mks,D.mvs,h4,List.map_cons],fun idx i' e' hi=> ?_,fun idx i' cm hi=> ?_,fun x hx=> ?_,fun p hp=> ?_,fun idx i' k' e' hi=> ?_⟩
    ·simpa[objPs]using h2.cons i
    ·cases idx with
     |zero=>simp at hi
     |succ idx=>
      obtain⟨nb',els',a,b⟩:=h5 idx i' e' (by simpa using hi)
      exact⟨nb',els',a,List.mem_cons_of_mem _ b⟩
    ·cases idx with
     |zero=>simp at hi
     |succ idx=>
      obtain⟨cs,xl,nl,a,b,c,d,f,g⟩:=h6 idx i' cm (by simpa using hi)
      rw[show n+(idx+1)=n+1+idx by omega]
      exact⟨cs,xl,nl,a,b,c,List.mem_cons_of_mem _ d,fun x hx=>List.mem_cons_of_mem _ (f x hx),g⟩
    ·rcases List.mem_cons.1 hx with rfl |hx
     ·exact .inr (.inr ⟨0,i,k0,e0,ks,vsm,rfl,hVi,rfl⟩)
     ·rcases h7 x hx with⟨idx,i',e',nb',els',a,b,c⟩ |⟨idx,i',cm,cs,a,b,c⟩ |⟨idx,i',k,e,ks,vs',a,b,c⟩
      ·exact .inl ⟨idx+1,i',e',nb',els',by simpa using a,b,c⟩
      ·exact .inr (.inl ⟨idx+1,i',cm,cs,by simpa using a,b,by rw[show n+(idx+1)=n+1+idx by omega];exact c⟩)
      ·exact .inr (.inr ⟨idx+1,i',k,e,ks,vs',by simpa using a,b,c⟩)
    ·obtain⟨idx,i',cm,cs,a,b,c⟩:=h8 p hp
     exact⟨idx+1,i',cm,cs,by simpa using a,b,c⟩
    ·cases idx with
     |zero=>
      simp at hi
      obtain⟨rfl,rfl,rfl⟩:=hi
      exact⟨ks,vsm,hVi,List.mem_cons_self ..⟩
     |succ idx=>
      obtain⟨ks,vs',a,b⟩:=h9 idx i' k' e' (by simpa using hi)
      exact⟨ks,vs',a,List.mem_cons_of_mem _ b⟩
   ·cases h
  ·cases h
 |(i,.v cm)::ms,l,ids,n,h,hv=>by
  simp only[packObjs]at h
  split at h
  ·rename_i cs hVi
   split at h
   ·rename_i xl n1 l' n' hp hr
    simp only[zq5,Prod.mk.injEq]at h
    obtain⟨rfl,rfl⟩:=h
    obtain⟨h1,h2,h3,h4,h5,h6,h7,h8,h9⟩:=objs_spec (G:=G) (w:=w) (vs:=vs) hV (n+1) hr fun i hi=>by have:=hv (i+1) (by simpa using hi);rwa [show n+(i+1)=n+1+i by omega,List.getD_cons_succ]at this
    have hv0:=hv 0 (by simp)
    rw[Nat.add_zero,List.getD_cons_zero]at hv0
    obtain⟨c1,c0,c2,c3,c4,c5,c6,c7,c8⟩:=cells_spec (G:=G) (cv:=cellV w (G i).1) 0 (hV i cs hVi) hp
    have hE:objEnts V G w vs n ((i,.v cm)::ms)=⟨i,.var (openCells (vs.getD n .undef) 0 cm).1,G i,some i⟩::(cellEnts V G (cellV w (G i).1) 0 cm cs++objEnts V G w vs (n+1) ms):=by
     simp only[objEnts,hVi]
    have hPs:objPs V G w ((i,.v cm)::ms)=cellPs (cellV w (G i).1) 0 cm cs++objPs V G w ms:=by simp only[objPs,hVi]
    rw[hE,hPs]
    obtain⟨c4,_⟩:=c4 (vs.getD n .undef) fun k hk=>by rw[hv0,Nat.zero_add];rfl
    refine⟨by simp[h1], ?_,by simp[objSites,c3,h3],by simp only[openObjs,c4,h4,List.map_cons,List.map_append],fun idx i' e' hi=> ?_,fun idx i' cm' hi=> ?_,fun x hx=> ?_,fun p hp=> ?_,fun idx i' k' e' hi=> ?_⟩
    ·have:=(perm_mid c2 h2).cons i
     simpa[psRefs]using this
    ·cases idx with
     |zero=>simp at hi
     |succ idx=>
      obtain⟨nb',els',a,b⟩:=h5 idx i' e' (by simpa using hi)
      exact⟨nb',els',a,List.mem_cons_of_mem _ (List.mem_append.2 (.inr b))⟩
    ·cases idx with
     |zero=>
      simp at hi
      obtain⟨rfl,rfl⟩:=hi
      exact⟨cs,xl,n1,hVi,hp,hv0,List.mem_cons_self ..,fun x hx=>List.mem_cons_of_mem _ (List.mem_append.2 (.inl hx)),fun p hp=>List.mem_append.2 (.inl hp)⟩
     |succ idx=>
      obtain⟨cs',xl',nl',a,b,c,d,f,g⟩:=h6 idx i' cm' (by simpa using hi)
      rw[show n+(idx+1)=n+1+idx by omega]
      exact⟨cs',xl',nl',a,b,c,List.mem_cons_of_mem _ (List.mem_append.2 (.inr d)),fun x hx=>List.mem_cons_of_mem _ (List.mem_append.2 (.inr (f x hx))),fun p hp=>List.mem_append.2 (.inr (g p hp))⟩
    ·rcases List.mem_cons.1 hx with rfl |hx
     ·exact .inr (.inl ⟨0,i,cm,cs,rfl,hVi,.inl rfl⟩)
     ·rcases List.mem_append.1 hx with hx |hx
      ·exact .inr (.inl ⟨0,i,cm,cs,rfl,hVi,.inr hx⟩)
      ·rcases h7 x hx with⟨idx,i',e',nb',els',a,b,c⟩ |⟨idx,i',cm',cs',a,b,c⟩ |⟨idx,i',k,e,ks,vs',a,b,c⟩
       ·exact .inl ⟨idx+1,i',e',nb',els',by simpa using a,b,c⟩
       ·exact .inr (.inl ⟨idx+1,i',cm',cs',by simpa using a,b,by rw[show n+(idx+1)=n+1+idx by omega];exact c⟩)
       ·exact .inr (.inr ⟨idx+1,i',k,e,ks,vs',by simpa using a,b,c⟩)
    ·rcases List.mem_append.1 hp with hp |hp
     ·exact⟨0,i,cm,cs,rfl,hVi,hp⟩
     ·obtain⟨idx,i',cm',cs',a,b,c⟩:=h8 p hp
      exact⟨idx+1,i',cm',cs',by simpa using a,b,c⟩
    ·cases idx with
     |zero=>simp at hi
     |succ idx=>
      obtain⟨ks,vs',a,b⟩:=h9 idx i' k' e' (by simpa using hi)
      exact⟨ks,vs',a,List.mem_cons_of_mem _ (List.mem_append.2 (.inr b))⟩
   ·cases h
  ·cases h
theorem nodupB_nodup:∀ {l:List Nat},nodupB l=true→l.Nodup
 |[],_=>List.nodup_nil
 |x::xs,h=>by
  obtain⟨h1,h2⟩:=nodupB_cons h
  exact List.nodup_cons.2 ⟨h1,nodupB_nodup h2⟩
end
section
theorem setTs_len:∀ (l:List (Nat×D)) (ts:List D),(setTs ts l).length=ts.length
 |[],_=>rfl
 |(j,d)::l,ts=>by rw[setTs,setTs_len l];simp
theorem setTs_get {i:Nat} {d:D}:∀ (l:List (Nat×D)) (ts:List D),(setTs ts l)[i]? =some d→(i,d)∈l∨((∀ p,p∈l→p.1≠i)∧ts[i]? =some d)
 |[],ts,h=> .inr ⟨(fun p hp=>by cases hp),h⟩
 |(j,x)::l,ts,h=>by
  rw[setTs]at h
  rcases setTs_get l _ h with h' |⟨h1,h2⟩
  ·exact .inl (List.mem_cons_of_mem _ h')
  ·rw[List.getElem?_set]at h2
   by_cases e:j=i
   ·subst e
    rw[if_pos rfl]at h2
    split at h2
    ·cases h2
     exact .inl (List.mem_cons_self ..)
    ·cases h2
   ·rw[if_neg e]at h2
    refine .inr ⟨fun p hp=> ?_,h2⟩
    rcases List.mem_cons.1 hp with rfl |hp
    ·exact e
    ·exact h1 p hp
theorem keepT_len (ids keep:List Nat):∀ (ts:List D) (k:Nat),(keepT ids keep ts k).length=ts.length
 |[],_=>rfl
 |d::ds,k=>by simp[keepT,keepT_len ids keep ds (k+1)]
theorem keepT_get (ids keep:List Nat):∀ (ts:List D) (k i:Nat) (d:D),(keepT ids keep ts k)[i]? =some d→d= .undef∨((k+i)∈keep∧ts[i]? =some d∧∀ x,x∈refsD d→x∈ids)
 |[],k,i,d,h=>by simp[keepT]at h
 |x::xs,k,i,d,h=>by
  cases i with
  |zero=>
   simp only[keepT,List.getElem?_cons_zero,zq5]at h
   split at h
   ·rename_i hc
    simp only[zq3,List.contains_eq_mem,decide_eq_true_eq,List.all_eq_true]at hc
    subst h
    exact .inr ⟨by simpa using hc.1,rfl,fun y hy=>hc.2 y hy⟩
   ·exact .inl h.symm
  |succ i=>
   simp only[keepT,List.getElem?_cons_succ]at h
   rcases keepT_get ids keep xs (k+1) i d h with h' |⟨h1,h2,h3⟩
   ·exact .inl h'
   ·exact .inr ⟨by rw[show k+(i+1)=k+1+i by omega];exact h1,by simpa using h2,h3⟩
theorem openSlots_mem {vs:List D}:∀ {ms:List (Nat×SlotM)} {n:Nat} {p:Nat×D},p∈(openSlots vs n ms).1→(∃ (i:Nat) (k:Vk),ms[i]? =some (p.1,.p k)∧p.2=etaV k (vs.getD (n+i) .undef) 0)∨
  ∃ (i s:Nat) (e:TypeId),ms[i]? =some (p.1,.o s e)∧p.2= .own e s (vs.getD (n+i) .undef).els.length
 |[],n,p,h=>by simp[openSlots]at h
 |(j,.p k)::ms,n,p,h=>by
  simp only[openSlots,List.mem_cons]at h
  rcases h with rfl |h
  ·exact .inl ⟨0,k,rfl,rfl⟩
  ·rcases openSlots_mem h with⟨i,k',a,b⟩ |⟨i,s,e,a,b⟩
   ·exact .inl ⟨i+1,k',by simpa using a,by rw[show n+(i+1)=n+1+i by omega];exact b⟩
   ·exact .inr ⟨i+1,s,e,by simpa using a,by rw[show n+(i+1)=n+1+i by omega];exact b⟩
 |(j,.o s e)::ms,n,p,h=>by
  simp only[openSlots,List.mem_cons]at h
  rcases h with rfl |h
  ·exact .inr ⟨0,s,e,rfl,rfl⟩
  ·rcases openSlots_mem h with⟨i,k',a,b⟩ |⟨i,s',e',a,b⟩
   ·exact .inl ⟨i+1,k',by simpa using a,by rw[show n+(i+1)=n+1+i by omega];exact b⟩
   ·exact .inr ⟨i+1,s',e',by simpa using a,by rw[show n+(i+1)=n+1+i by omega];exact b⟩
theorem slotTy_get {ty:TypeId→Option Vk}:∀ {ms:List (Nat×SlotM)},slotTy ty ms=true→∀ {i j s:Nat} {e:TypeId},ms[i]? =some (j,.o s e)→(ty e).isSome=true
 |[],_,i,j,s,e,h=>by simp at h
 |(j0,.p k)::ms,ht,i,j,s,e,h=>by
  cases i with
  |zero=>simp at h
  |succ i=>exact slotTy_get (ms:=ms) ht (by simpa using h)
 |(j0,.o s0 e0)::ms,ht,i,j,s,e,h=>by
  simp only[slotTy,zq3]at ht
  cases i with
  |zero=>simp at h;obtain⟨_,_,rfl⟩:=h;exact ht.1
  |succ i=>exact slotTy_get ht.2 (by simpa using h)
theorem cellTy_get {ty:TypeId→Option Vk}:∀ {ms:List CellM},cellTy ty ms=true→∀ {i s:Nat} {e:TypeId},ms[i]? =some (.o s e)→(ty e).isSome=true
 |[],_,i,s,e,h=>by simp at h
 | .p k::ms,ht,i,s,e,h=>by
  cases i with
  |zero=>simp at h
  |succ i=>exact cellTy_get (ms:=ms) ht (by simpa using h)
 | .o s0 e0::ms,ht,i,s,e,h=>by
  simp only[cellTy,zq3]at ht
  cases i with
  |zero=>simp at h;obtain⟨_,rfl⟩:=h;exact ht.1
  |succ i=>exact cellTy_get ht.2 (by simpa using h)
theorem objTy_get {ty:TypeId→Option Vk}:∀ {ms:List (Nat×ObjM)},objTy ty ms=true→∀ {i j:Nat} {cm:List CellM},ms[i]? =some (j,.v cm)→cellTy ty cm=true
 |[],_,i,j,cm,h=>by simp at h
 |(j0,.a e)::ms,ht,i,j,cm,h=>by
  cases i with
  |zero=>simp at h
  |succ i=>exact objTy_get (ms:=ms) ht (by simpa using h)
 |(j0,.m k e)::ms,ht,i,j,cm,h=>by
  cases i with
  |zero=>simp at h
  |succ i=>exact objTy_get (ms:=ms) ht (by simpa using h)
 |(j0,.v c0)::ms,ht,i,j,cm,h=>by
  simp only[objTy,zq3]at ht
  cases i with
  |zero=>simp at h;obtain⟨_,rfl⟩:=h;exact ht.1
  |succ i=>exact objTy_get ht.2 (by simpa using h)
section
variable {C:Cx} {P:Program} {E:Env} {tm:Array Value} {st:St} {G:Gh} {w:World}
def EntRow (C:Cx) (osf:List Obj) (G:Gh) (w:World) (s:Nat) (e:TypeId) (v:Value) (x:D) (en:Ent):Prop:=
 en.num=s∧en.obj= .arr e x.nb x.els∧en.gh.1=v∧(∃ k,C.ty e=some k∧RowR C.ty w (okB C osf G w) k en.gh.1 en.gh.2 x.els x.nb)∧
  ∀ b,en.gh.2=some b→∃ id o,en.src=some id∧osf[id]? =some o∧live o=true∧(G id).2=some b
theorem ownEnt_ok {osf:List Obj} (h:Rel C tm st G w) (hz:Rel C tm ⟨st.ts,osf⟩ G w) {V:Vw} (hV:∀ id o,V id=o→o≠ .dead→st.os[id]? =some o) {s:Nat} {e:TypeId} {v:Value} {d x:D} {ids:List Nat}
  (ho:takeOwn V e d=some (x,ids)) (hd:RepT0 C st.os G w v d) (hty:(C.ty e).isSome=true) (hsrc:∀ id,(entOwn V G s e v d).src=some id→osf[id]? =st.os[id]?):
  EntRow C osf G w s e v x (entOwn V G s e v d):=by
 obtain⟨t1,t2,t3,t4⟩:=takeOwn_spec (G:=G) (s:=s) (v:=v) ho
 refine⟨t3,t2, ?_⟩
 rcases t4 with⟨id,n,nb,els,⟨e1,rfl⟩,hVid,rfl,g1,g2⟩ |⟨nb,rfl,rfl,g1,g2⟩
 ·have hid:=hV id _ hVid (by simp)
  have hidf:=(hsrc id g2).trans hid
  simp only[RepT0,oAt_of hid,oSh]at hd
  obtain⟨k,k1,k2⟩:=objRel_row.1 (hz.os id _ hidf)
  rw[g1,g2]
  refine⟨hd.2.2.2.symm,⟨k,k1,k2⟩,fun b hb=>⟨id,_,rfl,hidf,rfl,hb⟩⟩
 ·obtain⟨k,hk⟩:=Option.isSome_iff_exists.1 hty
  rw[g1]
  refine⟨rfl,⟨k,hk, ?_⟩,fun b hb=>by cases hb⟩
  simp only[RepT0]at hd
  have:∃ aa:Option Addr,v= .slice aa 0 0∧nb=aa.isNone∧∀ y,aa=some y→(0:Nat)≠0→y.spot=none:=by
   cases hd with
   |zsnil=>exact⟨none,rfl,rfl,fun y hy=>by cases hy⟩
   |zs e ad k hk hsp=>exact⟨some ad,rfl,rfl,fun y hy=>by cases hy;exact hsp⟩
  obtain⟨aa,f1,f2,f3⟩:=this
  exact⟨[],⟨by simp[D.els],.inl ⟨rfl,rfl,aa,f1,f2,f3⟩⟩,(fun d hd=>by cases hd),(fun i j hi=>by simp[D.els]at hi)⟩
end
end
section
section
variable {C:Cx} {P:Program} {E:Env} {tm:Array Value} {st:St} {G:Gh} {w:World}
theorem pack_ok (h:Rel C tm st G w) {sh:Shape} {vs:List D} (hp:pack sh st=some vs) (hs1:nodupB (slotSites sh.slots++objSites sh.objs)=true) (ht1:slotTy C.ty sh.slots=true) (ht2:objTy C.ty sh.objs=true):
  ∃ (es:List Ent) (osf:List Obj),Rel C tm ⟨st.ts,osf⟩ G w∧EntsOk C osf G w es∧es.map (·.num)=slotSites sh.slots++objSites sh.objs∧
   (openSlots vs 0 sh.slots).2++openObjs vs sh.slots.length sh.objs=es.map (fun e=>(e.num,e.obj))∧
   (∀ (i j:Nat) (k:Vk),sh.slots[i]? =some (j,.p k)→k.fits (vs.getD i .undef)=true∧RepV C.ty w (okB C osf G w) (tm.getD j undef) (vs.getD i .undef))∧
   (∀ (i j s:Nat) (e:TypeId),sh.slots[i]? =some (j,.o s e)→∃ x,x∈es∧x.num=s∧(∃ nb l,x.obj= .arr e nb l∧l.length=(vs.getD i .undef).els.length)∧x.gh.1=tm.getD j undef)∧
   (∀ i,i∈sh.objs.map (·.1)→∃ x,x∈es∧x.num=i∧x.gh=G i∧i<st.os.length∧oSh x.obj=oAt st.os i):=by
 unfold pack at hp
 simp only at hp
 split at hp
 ·rename_i l1 n1 l2 n2 hps hpo
  split at hp
  ·rename_i hnd
   cases hp
   generalize hVd:(fun i=>st.os.getD i Obj.dead:Vw)=V at hps hpo
   have hV:∀ id o,V id=o→o≠ .dead→st.os[id]? =some o:=by
    intro id o ho hne
    rw[←hVd]at ho
    simp only[zq1]at ho
    cases e:st.os[id]? with
    |none=>rw[e]at ho;exact absurd ho.symm hne
    |some y=>rw[e]at ho;simp at ho;rw[ho]
   have hVc:∀ i cs,V i= .var cs→∀ d,d∈cs→cell0 d=true:=by
    intro i cs hi d hd
    obtain⟨g,cells,t,_,_,_,hc⟩:=h.os i _ (hV i _ hi (by simp))
    obtain⟨j,hj,rfl⟩:=List.getElem_of_mem hd
    have:=(hc j hj).2
    simpa[zq1,hj]using this
   obtain⟨s1,s2,s3,s4,s5,s6,s7,s8⟩:=slots_spec (G:=G) (tm:=tm) hps
   have hvs1:∀ i,i<sh.slots.length→(l1++l2).getD (0+i) .undef=l1.getD i .undef:=by
    intro i hi
    simp[zq1,List.getElem?_append,show i<l1.length by omega]
   have hvs2:∀ i,i<sh.objs.length→(l1++l2).getD (sh.slots.length+i) .undef=l2.getD i .undef:=by
    intro i hi
    rw[←s1]
    simp[zq1,List.getElem?_append,show¬l1.length+i<l1.length by omega]
   obtain⟨o1,o2,o3,o4,o5,o6,o7,o8,o9⟩:=objs_spec (G:=G) (w:=w) (vs:=l1++l2) hVc sh.slots.length hpo hvs2
   have e4:=s4 (l1++l2) 0 hvs1
   have hperm:=perm_mid s2 o2
   have hnodup:(((slotEnts V G st.ts tm sh.slots).filterMap (·.src)++(objEnts V G w (l1++l2) sh.slots.length sh.objs).filterMap (·.src))++(psRefs (slotPs st.ts tm sh.slots)++psRefs (objPs V G w sh.objs))).Nodup:=hperm.nodup_iff.1 (nodupB_nodup hnd)
   rw[←List.filterMap_append]at hnodup
   obtain⟨nd1,_,nd2⟩:=List.nodup_append.1 hnodup
   generalize hps2:slotPs st.ts tm sh.slots++objPs V G w sh.objs=ps
   have cv:∀ {i:Nat} {cs:List D},V i= .var cs→∀ j,j<cs.length→RepT0 C st.os G w (cellV w (G i).1 j) (cs.getD j .undef)∧cell0 (cs.getD j .undef)=true:=by
    intro i cs hi j hj
    obtain⟨g,cells,t,g1,g2,g3,hc⟩:=h.os i _ (hV i _ hi (by simp))
    have:cellV w (G i).1 j=cells.getD j undef:=by simp[cellV,g1,g2]
    rw[this]
    exact hc j hj
   have pOk:∀ p,p∈ps→RepT C st.os G w p.2 p.1∧pureD (frz V p.1).1=true:=by
    intro p hpm
    rw[←hps2]at hpm
    rcases List.mem_append.1 hpm with hpm |hpm
    ·obtain⟨i,j,k,_,rfl,hf⟩:=s5 p hpm
     refine⟨?_,fits_rp hf⟩
     simp only
     cases e:st.ts[j]? with
     |none=>
      rw[zq1,e]at hf⊢
      exact trivial
     |some d=>
      rw[zq1,e]
      exact h.ts j d e
    ·obtain⟨idx,i,cm,cs,h1,h2,h3⟩:=o8 p hpm
     obtain⟨cs',xl,nl,g1,g2,g3,g4,g5,g6⟩:=o6 idx i cm h1
     rw[h2]at g1
     cases g1
     obtain⟨c1,c0,c2,c3,c4,c5,c6,c7,c8⟩:=cells_spec (G:=G) (cv:=cellV w (G i).1) 0 (hVc i cs h2) g2
     obtain⟨j,k,q1,rfl,q3⟩:=c5 p h3
     have hj:j<cs.length:=by have:=(zq6.1 q1).1;omega
     obtain⟨r1,r2⟩:=cv h2 j hj
     refine⟨by simpa using r1.up, ?_⟩
     have hpure:=fits_pure q3
     simp only at hpure⊢
     generalize (frz V (cs.getD j .undef)).1=y at q3 hpure
     cases y<;>first |(simp[pure0]at hpure;done) |rfl |(cases k<;>simp[GD.fits]at q3)
   obtain⟨hz,hr⟩:=frzAll_ok (V:=V) hV (ps.map (·.1)) st.os h (.refl st.os) (fun j=>(ps.getD j (.undef,undef)).2) (fun j hj=>by
    have hj':j<ps.length:=by simpa using hj
    have:=(pOk ps[j] (List.getElem_mem hj')).1
    simpa[zq1,hj']using this) (by
    rw[List.all_eq_true]
    intro d hd
    obtain⟨p,hp,rfl⟩:=List.mem_map.1 hd
    exact (pOk p hp).2)
   generalize hosf:wrL st.os ((ps.map (·.1)).map fun d=>(frz V d).2).flatten=osf at hr
   have hzr:Rel C tm ⟨st.ts,osf⟩ G w:=by rw[←hosf];exact hz.rel
   have pRep:∀ p,p∈ps→RepV C.ty w (okB C osf G w) p.2 (frz V p.1).1:=by
    intro p hp
    obtain⟨j,hj,rfl⟩:=List.getElem_of_mem hp
    have:=hr j (by simpa using hj)
    simpa[zq1,hj]using this
   have unfz:∀ id,id∈((slotEnts V G st.ts tm sh.slots++objEnts V G w (l1++l2) sh.slots.length sh.objs).filterMap (·.src))→osf[id]? =st.os[id]? :=by
    intro id hid
    rw[←hosf]
    refine wrL_not _ _ fun q hq he=> ?_
    obtain⟨ws,hws,hq2⟩:=List.mem_flatten.1 hq
    obtain⟨d,hd,rfl⟩:=List.mem_map.1 hws
    obtain⟨p,hpp,rfl⟩:=List.mem_map.1 hd
    have hk:=frz_keys hq2
    have hin:q.1∈psRefs (slotPs st.ts tm sh.slots)++psRefs (objPs V G w sh.objs):=by
     rw[←hps2]at hpp
     rcases List.mem_append.1 hpp with hpp |hpp
     ·exact List.mem_append.2 (.inl (List.mem_flatMap.2 ⟨p,hpp,hk⟩))
     ·exact List.mem_append.2 (.inr (List.mem_flatMap.2 ⟨p,hpp,hk⟩))
    exact nd2 id hid q.1 hin he.symm
   generalize hes:slotEnts V G st.ts tm sh.slots++objEnts V G w (l1++l2) sh.slots.length sh.objs=es at unfz nd1
   have srcIn:∀ {x:Ent} {id:Nat},x∈es→x.src=some id→osf[id]? =st.os[id]? :=fun hx hs=>unfz _ (List.mem_filterMap.2 ⟨_,hx,hs⟩)
   have inS:∀ {x:Ent},x∈slotEnts V G st.ts tm sh.slots→x∈es:=fun hx=>by rw[←hes];exact List.mem_append.2 (.inl hx)
   have inO:∀ {x:Ent},x∈objEnts V G w (l1++l2) sh.slots.length sh.objs→x∈es:=fun hx=>by rw[←hes];exact List.mem_append.2 (.inr hx)
   have ownS:∀ {i j s:Nat} {e:TypeId},sh.slots[i]? =some (j,.o s e)→entOwn V G s e (tm.getD j undef) (st.ts.getD j .undef)∈es∧EntRow C osf G w s e (tm.getD j undef) (l1.getD i .undef) (entOwn V G s e (tm.getD j undef) (st.ts.getD j .undef)):=by
    intro i j s e hi
    obtain⟨a1,a2⟩:=s7 i j s e hi
    have hd:RepT0 C st.os G w (tm.getD j undef) (st.ts.getD j .undef):=by
     cases e1:st.ts[j]? with
     |none=>rw[zq1,e1];exact trivial
     |some d=>
      have:=h.ts j d e1
      rw[zq1,e1]at a2⊢
      simp only[Option.getD_some]at a2⊢
      cases d<;>first |exact this |(simp[takeOwn]at a2;done)
    exact⟨inS a1,ownEnt_ok (s:=s) h hzr hV a2 hd (slotTy_get ht1 hi) fun id hid=>srcIn (inS a1) hid⟩
   have ownC:∀ {idx i:Nat} {cm:List CellM} {cs:List D},sh.objs[idx]? =some (i,.v cm)→V i= .var cs→∀ {q s:Nat} {e:TypeId},cm[q]? =some (.o s e)→entOwn V G s e (cellV w (G i).1 q) (cs.getD q .undef)∈es∧∃ xl nl,packCells V cm cs=some (xl,nl)∧(l1++l2).getD (sh.slots.length+idx) .undef= .pv xl∧EntRow C osf G w s e (cellV w (G i).1 q) (xl.getD q .undef) (entOwn V G s e (cellV w (G i).1 q) (cs.getD q .undef)):=by
    intro idx i cm cs hidx hVi q s e hq
    obtain⟨cs',xl,nl,g1,g2,g3,g4,g5,g6⟩:=o6 idx i cm hidx
    rw[hVi]at g1
    cases g1
    obtain⟨c1,c0,c2,c3,c4,c5,c6,c7,c8⟩:=cells_spec (G:=G) (cv:=cellV w (G i).1) 0 (hVc i cs hVi) g2
    obtain⟨a1,a2⟩:=c7 q s e hq
    rw[Nat.zero_add]at a1 a2
    have hql:q<cs.length:=by have:=(zq6.1 hq).1;omega
    have hm:=inO (g5 _ a1)
    exact⟨hm,xl,nl,g2,g3,ownEnt_ok (s:=s) h hzr hV a2 (cv hVi q hql).1 (cellTy_get (objTy_get ht2 hidx) hq) fun id hid=>srcIn hm hid⟩
   have cls:∀ x,x∈es→(∃ (i j s:Nat) (e:TypeId),sh.slots[i]? =some (j,.o s e)∧x=entOwn V G s e (tm.getD j undef) (st.ts.getD j .undef))∨
     (∃ (idx i:Nat) (e:TypeId) (nb:Bool) (els:List D),sh.objs[idx]? =some (i,.a e)∧V i= .arr e nb els∧x=⟨i,.arr e nb els,G i,some i⟩)∨
     (∃ (idx i:Nat) (cm:List CellM) (cs:List D),sh.objs[idx]? =some (i,.v cm)∧V i= .var cs∧x=⟨i,.var (openCells ((l1++l2).getD (sh.slots.length+idx) .undef) 0 cm).1,G i,some i⟩)∨
     (∃ (idx i:Nat) (cm:List CellM) (cs:List D) (q s:Nat) (e:TypeId),sh.objs[idx]? =some (i,.v cm)∧V i= .var cs∧cm[q]? =some (.o s e)∧x=entOwn V G s e (cellV w (G i).1 q) (cs.getD q .undef))∨
     (∃ (idx i:Nat) (k e:Vk) (ks vs':List D),sh.objs[idx]? =some (i,.m k e)∧V i= .mp k e ks vs'∧x=⟨i,.mp k e ks vs',G i,some i⟩):=by
    intro x hx
    rw[←hes]at hx
    rcases List.mem_append.1 hx with hx |hx
    ·exact .inl (s8 x hx)
    ·rcases o7 x hx with h' |⟨idx,i,cm,cs,a,b,c |c⟩ |⟨idx,i,k,e,ks,vs',a,b,c⟩
     ·exact .inr (.inl h')
     ·exact .inr (.inr (.inl ⟨idx,i,cm,cs,a,b,c⟩))
     ·obtain⟨cs',xl,nl,g1,g2,g3,g4,g5,g6⟩:=o6 idx i cm a
      rw[b]at g1
      cases g1
      obtain⟨c1,c0,c2,c3,c4,c5,c6,c7,c8⟩:=cells_spec (G:=G) (cv:=cellV w (G i).1) 0 (hVc i cs b) g2
      obtain⟨q,s,e,d1,d2⟩:=c8 x c
      rw[Nat.zero_add]at d2
      exact .inr (.inr (.inr (.inl ⟨idx,i,cm,cs,q,s,e,a,b,d1,d2⟩)))
     ·exact .inr (.inr (.inr (.inr ⟨idx,i,k,e,ks,vs',a,b,c⟩)))
   have liveF:∀ {x:Ent} {i:Nat} {o:Obj},x∈es→x.src=some i→st.os[i]? =some o→osf[i]? =some o:=fun hx hs ho=>(srcIn hx hs).trans ho
   have hEnts:EntsOk C osf G w es:=by
    refine⟨?_,nd1,fun x hx b hb=> ?_,fun x hx t nb els hxo=> ?_,fun x hx cs' hxo=> ?_,fun x hx mk me mks mvs hxo=> ?_,fun x hx=> ?_⟩
    ·rw[←hes,List.map_append,s3,o3]
     exact nodupB_nodup hs1
    ·rcases cls x hx with⟨i,j,s,e,a,rfl⟩ |⟨idx,i,e,nb,els,a,b',rfl⟩ |⟨idx,i,cm,cs,a,b',rfl⟩ |⟨idx,i,cm,cs,q,s,e,a,b',c,rfl⟩ |⟨idx,i,k,e,ks,vs',a,b',rfl⟩
     ·exact (ownS a).2.2.2.2.2 b hb
     ·exact⟨i,_,rfl,liveF hx rfl (hV i _ b' (by simp)),rfl,hb⟩
     ·exact⟨i,_,rfl,liveF hx rfl (hV i _ b' (by simp)),rfl,hb⟩
     ·obtain⟨_,xl,nl,_,_,r⟩:=ownC a b' c
      exact r.2.2.2.2 b hb
     ·exact⟨i,_,rfl,liveF hx rfl (hV i _ b' (by simp)),rfl,hb⟩
    ·rcases cls x hx with⟨i,j,s,e,a,rfl⟩ |⟨idx,i,e,nb',els',a,b',rfl⟩ |⟨idx,i,cm,cs,a,b',rfl⟩ |⟨idx,i,cm,cs,q,s,e,a,b',c,rfl⟩ |⟨idx,i,k,e,ks,vs',a,b',rfl⟩
     ·obtain⟨_,r1,r2,r3,r4,r5⟩:=ownS a
      rw[r2]at hxo
      cases hxo
      exact r4
     ·cases hxo
      exact objRel_row.1 (hzr.os i _ (liveF hx rfl (hV i _ b' (by simp))))
     ·cases hxo
     ·obtain⟨_,xl,nl,_,_,r1,r2,r3,r4,r5⟩:=ownC a b' c
      rw[r2]at hxo
      cases hxo
      exact r4
     ·cases hxo
    ·rcases cls x hx with⟨i,j,s,e,a,rfl⟩ |⟨idx,i,e,nb',els',a,b',rfl⟩ |⟨idx,i,cm,cs,a,b',rfl⟩ |⟨idx,i,cm,cs,q,s,e,a,b',c,rfl⟩ |⟨idx,i,k,e,ks,vs',a,b',rfl⟩
     ·obtain⟨_,r1,r2,_⟩:=ownS a
      rw[r2]at hxo
      cases hxo
     ·cases hxo
     ·cases hxo
      obtain⟨cs2,xl,nl,g1,g2,g3,g4,g5,g6⟩:=o6 idx i cm a
      rw[b']at g1
      cases g1
      obtain⟨c1,c0,c2,c3,c4,c5,c6,c7,c8⟩:=cells_spec (G:=G) (cv:=cellV w (G i).1) 0 (hVc i cs b') g2
      obtain⟨q1,q2,q3,q4⟩:=c4 ((l1++l2).getD (sh.slots.length+idx) .undef) fun k hk=>by rw[g3,Nat.zero_add];rfl
      obtain⟨g,cells,t,v1,v2,v3,v4⟩:=hzr.os i _ (liveF hx rfl (hV i _ b' (by simp)))
      refine⟨g,cells,t,v1,v2,by rw[v3,q2,c0],fun j hj=> ?_⟩
      rw[q2]at hj
      have hcell:cellV w (G i).1 j=cells.getD j undef:=by simp[cellV,v1,v2]
      have hcm:=zq4 hj
      generalize cm[j]=m at hcm
      cases m with
      |p k=>
       left
       obtain⟨d1,d2,d3⟩:=c6 j k hcm
       rw[Nat.zero_add]at d1
       rw[q3 j k hcm,eta_fits d3]
       refine⟨fits_pure d3, ?_⟩
       rw[d2,←hcell]
       exact pRep _ (by rw[←hps2];exact List.mem_append.2 (.inr (g6 _ d1)))
      |o s e=>
       right
       rw[q4 j s e hcm]
       obtain⟨hm,xl2,nl2,y1,y2,r1,r2,r3,r4,r5⟩:=ownC a b' hcm
       rw[g3]at y2
       cases y2
       exact⟨e,s,_,(xl.getD j .undef).nb,_,rfl,_,hm,r1,⟨_,r2,rfl⟩,rfl,by rw[r3,hcell]⟩
     ·obtain⟨_,xl,nl,_,_,r1,r2,_⟩:=ownC a b' c
      rw[r2]at hxo
      cases hxo
     ·cases hxo
    ·rcases cls x hx with⟨i,j,s,e,a,rfl⟩ |⟨idx,i,e,nb',els',a,b',rfl⟩ |⟨idx,i,cm,cs,a,b',rfl⟩ |⟨idx,i,cm,cs,q,s,e,a,b',c,rfl⟩ |⟨idx,i,k,e,ks,vs',a,b',rfl⟩
     ·obtain⟨_,r1,r2,_⟩:=ownS a
      rw[r2]at hxo
      cases hxo
     ·cases hxo
     ·cases hxo
     ·obtain⟨_,xl,nl,_,_,r1,r2,_⟩:=ownC a b' c
      rw[r2]at hxo
      cases hxo
     ·cases hxo
      exact hzr.os i _ (liveF hx rfl (hV i _ b' (by simp)))
    ·rcases cls x hx with⟨i,j,s,e,a,rfl⟩ |⟨idx,i,e,nb',els',a,b',rfl⟩ |⟨idx,i,cm,cs,a,b',rfl⟩ |⟨idx,i,cm,cs,q,s,e,a,b',c,rfl⟩ |⟨idx,i,k,e,ks,vs',a,b',rfl⟩
     ·exact .inl ⟨_,_,_,(ownS a).2.2.1⟩
     ·exact .inl ⟨_,_,_,rfl⟩
     ·exact .inr (.inl ⟨_,rfl⟩)
     ·obtain⟨_,xl,nl,_,_,r1,r2,_⟩:=ownC a b' c
      exact .inl ⟨_,_,_,r2⟩
     ·exact .inr (.inr ⟨_,_,_,_,rfl⟩)
   refine⟨es,osf,hzr,hEnts,by rw[←hes,List.map_append,s3,o3],by rw[e4,o4,←hes,List.map_append],fun i j k hi=> ?_,fun i j s e hi=> ?_,fun i hi=> ?_⟩
   ·obtain⟨a1,a2,a3⟩:=s6 i j k hi
    have hil:=(zq6.1 hi).1
    have:=hvs1 i hil
    rw[Nat.zero_add]at this
    rw[this]
    refine⟨a3, ?_⟩
    rw[a2]
    exact pRep _ (by rw[←hps2];exact List.mem_append.2 (.inl a1))
   ·obtain⟨a1,r1,r2,r3,r4,r5⟩:=ownS hi
    have hil:=(zq6.1 hi).1
    have:=hvs1 i hil
    rw[Nat.zero_add]at this
    rw[this]
    exact⟨_,a1,r1,⟨_,_,r2,rfl⟩,r3⟩
   ·obtain⟨m,hm,rfl⟩:=List.mem_map.1 hi
    obtain⟨idx,hidx,rfl⟩:=List.getElem_of_mem hm
    have hg:=zq4 hidx
    generalize sh.objs[idx]=m at hg
    obtain⟨i,om⟩:=m
    cases om with
    |a e=>
     obtain⟨nb,els,a1,a2⟩:=o5 idx i e hg
     have hst:=hV i _ a1 (by simp)
     exact⟨_,inO a2,rfl,rfl,(zq6.1 hst).1,by rw[oAt_of hst]⟩
    |m k e=>
     obtain⟨ks,vs',a1,a2⟩:=o9 idx i k e hg
     have hst:=hV i _ a1 (by simp)
     exact⟨_,inO a2,rfl,rfl,(zq6.1 hst).1,by rw[oAt_of hst]⟩
    |v cm=>
     obtain⟨cs,xl,nl,a1,a2,a3,a4,a5,a6⟩:=o6 idx i cm hg
     have hst:=hV i _ a1 (by simp)
     obtain⟨c1,c0,c2,c3,c4,_⟩:=cells_spec (G:=G) (cv:=cellV w (G i).1) 0 (hVc i cs a1) a2
     obtain⟨q1,q2,q3,q4⟩:=c4 ((l1++l2).getD (sh.slots.length+idx) .undef) fun k hk=>by rw[a3,Nat.zero_add];rfl
     exact⟨_,inO a4,rfl,rfl,(zq6.1 hst).1,by rw[oAt_of hst];simp only[oSh,q2,c0]⟩
  ·cases hp
 ·cases hp
end
end
section
theorem packCells_len {V:Vw}:∀ {cm:List CellM} {cs l:List D} {ids:List Nat},packCells V cm cs=some (l,ids)→cs.length=cm.length
 |[],[],_,_,_=>rfl
 | .p k::cm,d::cs,l,ids,h=>by
  simp only[packCells]at h
  split at h
  ·rename_i hr
   simp[packCells_len hr]
  ·cases h
 | .o s e::cm,d::cs,l,ids,h=>by
  simp only[packCells]at h
  split at h
  ·rename_i hr
   simp[packCells_len hr]
  ·cases h
 |[],_::_,_,_,h=>by simp[packCells]at h
 | .p _::_,[],_,_,h=>by simp[packCells]at h
 | .o _ _::_,[],_,_,h=>by simp[packCells]at h
theorem packObjs_kind {V:Vw}:∀ {ms:List (Nat×ObjM)} {l:List D} {ids:List Nat},packObjs V ms=some (l,ids)→∀ (i:Nat) (m:ObjM),(i,m)∈ms→
  match m with
  | .a e=>∃ nb els,V i= .arr e nb els
  | .m k e=>∃ ks vs,V i= .mp k e ks vs
  | .v cm=>∃ cs,V i= .var cs∧cs.length=cm.length
 |[],_,_,_,i,m,hm=>by cases hm
 |(i0,.a e)::ms,l,ids,h,i,m,hm=>by
  simp only[packObjs]at h
  split at h
  ·rename_i e' nb els l' n' hVi hr
   split at h
   ·rename_i hee
    subst hee
    rcases List.mem_cons.1 hm with h' |hm
    ·cases h'
     exact⟨nb,els,hVi⟩
    ·exact packObjs_kind hr i m hm
   ·cases h
  ·cases h
 |(i0,.m k e)::ms,l,ids,h,i,m,hm=>by
  simp only[packObjs]at h
  split at h
  ·rename_i k' e' ks vs l' n' hVi hr
   split at h
   ·rename_i hee
    obtain⟨rfl,rfl⟩:=hee
    rcases List.mem_cons.1 hm with h' |hm
    ·cases h'
     exact⟨ks,vs,hVi⟩
    ·exact packObjs_kind hr i m hm
   ·cases h
  ·cases h
 |(i0,.v cm)::ms,l,ids,h,i,m,hm=>by
  simp only[packObjs]at h
  split at h
  ·rename_i cs hVi
   split at h
   ·rename_i hp hr
    rcases List.mem_cons.1 hm with h' |hm
    ·cases h'
     exact⟨cs,hVi,packCells_len hp⟩
    ·exact packObjs_kind hr i m hm
   ·cases h
  ·cases h
theorem pack_kind {sh:Shape} {st:St} {vs:List D} (hp:pack sh st=some vs) (i:Nat) (m:ObjM) (hm:(i,m)∈sh.objs):
  match m with
  | .a e=>∃ nb els,st.os[i]? =some (.arr e nb els)
  | .m k e=>∃ ks vs,st.os[i]? =some (.mp k e ks vs)
  | .v cm=>∃ cs,st.os[i]? =some (.var cs)∧cs.length=cm.length:=by
 unfold pack at hp
 simp only at hp
 split at hp
 ·rename_i l1 n1 l2 n2 hps hpo
  have:=packObjs_kind hpo i m hm
  have get:∀ o:Obj,st.os.getD i .dead=o→o≠ .dead→st.os[i]? =some o:=by
   intro o ho hne
   rw[zq1]at ho
   cases e:st.os[i]? with
   |none=>rw[e]at ho;exact absurd ho.symm hne
   |some y=>rw[e]at ho;simp at ho;rw[ho]
  cases m with
  |a e=>
   obtain⟨nb,els,h1⟩:=this
   exact⟨nb,els,get _ h1 (by simp)⟩
  |m k e=>
   obtain⟨ks,vs,h1⟩:=this
   exact⟨ks,vs,get _ h1 (by simp)⟩
  |v cm=>
   obtain⟨cs,h1,h2⟩:=this
   exact⟨cs,get _ h1 (by simp),h2⟩
 ·cases hp
section
variable {C:Cx} {tm tm0:Array Value} {st st0:St} {G G0:Gh} {w w0:World}
theorem same_shape (h:Rel C tm st G w) {C':Cx} (h0:Rel C' tm0 st0 G0 w0) {sh:Shape} {vs vs0:List D} (hp:pack sh st=some vs) (hp0:pack sh st0=some vs0) {i:Nat} (hi:i∈sh.objs.map (·.1)) (hG:G i=G0 i):oAt st.os i=oAt st0.os i:=by
 obtain⟨⟨i',m⟩,hm,rfl⟩:=List.mem_map.1 hi
 have k1:=pack_kind hp i' m hm
 have k2:=pack_kind hp0 i' m hm
 cases m with
 |a e=>
  obtain⟨nb,els,a1⟩:=k1
  obtain⟨nb0,els0,a2⟩:=k2
  obtain⟨k,b1,b2⟩:=objRel_row.1 (h.os i' _ a1)
  obtain⟨k',c1,c2⟩:=objRel_row.1 (h0.os i' _ a2)
  simp only at hG
  rw[hG]at b2
  simp only
  rw[oAt_of a1,oAt_of a2]
  simp[oSh,row_len b2 c2]
 |m k e=>
  obtain⟨ks,vs,a1⟩:=k1
  obtain⟨ks0,vs0,a2⟩:=k2
  simp only
  rw[oAt_of a1,oAt_of a2]
  simp[oSh]
 |v cm=>
  obtain⟨cs,a1,a2⟩:=k1
  obtain⟨cs0,b1,b2⟩:=k2
  simp only
  rw[oAt_of a1,oAt_of b1]
  simp[oSh,a2,b2]
theorem unpack_ok {C0:Cx} (h0:Rel C0 tm0 st0 G0 w0) (h:Rel (C0.at w0 (LB st0.os G0)) tm st G w) {sh:Shape} {vs vs0:List D} (hp:pack sh st=some vs) (hp0:pack sh st0=some vs0)
  (hs1:nodupB (slotSites sh.slots++objSites sh.objs)=true) (hs2:nodupB (sh.slots.map (·.1))=true) (hs3:sh.slots.all (fun p=> !sh.keep.contains p.1)=true) (ht1:slotTy C0.ty sh.slots=true) (ht2:objTy C0.ty sh.objs=true)
  (hN:∀ s,s∈slotSites sh.slots++objSites sh.objs→s<st0.os.length) (hsz:tm.size=tm0.size) (hkeep:∀ j,j∈sh.keep→tm.getD j undef=tm0.getD j undef) (hG:∀ i,i∈sh.objs.map (·.1)→G i=G0 i):
  ∃ G1,Rel (C0.at w0 (LB st0.os G0)) tm (unpack sh st0 vs) G1 w∧∀ i,i∈sh.objs.map (·.1)→G1 i=G i∧isDead ((unpack sh st0 vs).os.getD i .gone)=false:=by
 obtain⟨es,osf,p1,p2,p3,p4,p5,p6,p7⟩:=pack_ok h hp hs1 ht1 ht2
 have hn:∀ e,e∈es→e.num<st0.os.length:=fun e he=>hN _ (by rw[←p3];exact List.mem_map.2 ⟨e,he,rfl⟩)
 have hos:(unpack sh st0 vs).os=opened st0.os.length es:=by
  show wrL (List.replicate st0.os.length .dead) ((openSlots vs 0 sh.slots).2++openObjs vs sh.slots.length sh.objs)=_
  rw[p4]
 have hst:unpack sh st0 vs=⟨setTs (keepT (sh.objs.map (·.1)) sh.keep st0.ts 0) (openSlots vs 0 sh.slots).1,opened st0.os.length es⟩:=by
  rw[←hos]
  rfl
 have hat:∀ e,e∈es→oAt (opened st0.os.length es) e.num=oSh e.obj:=fun e he=>oAt_of (opened_at p2.num he (hn e he))
 have halive:∀ e,e∈es→isDead ((opened st0.os.length es).getD e.num .gone)=false:=by
  intro e he
  rw[zq1,opened_at p2.num he (hn e he)]
  rcases p2.kind e he with⟨t,nb,els,hx⟩ |⟨cs,hx⟩ |⟨k,v,ks,vs,hx⟩<;>(rw[hx];rfl)
 have hLB:∀ b,LB (opened st0.os.length es) (openG G es) b→LB osf G b:=by
  rintro b ⟨i,o,h1,h2,h3⟩
  rcases opened_get p2.num h1 with rfl |⟨e,he,rfl,rfl⟩
  ·cases h2
  ·rw[openG_at p2.num he]at h3
   obtain⟨id,o',g1,g2,g3,g4⟩:=p2.blk e he b h3
   exact⟨id,o',g2,g3,g4⟩
 have hokF:∀ b,okB (C0.at w0 (LB st0.os G0)) osf G w b→okB (C0.at w0 (LB st0.os G0)) (opened st0.os.length es) (openG G es) w b:=fun b ⟨b1,b2,b3⟩=>⟨b1,fun hb=>b2 (hLB b hb),b3⟩
 have hok0:∀ b,okB C0 st0.os G0 w0 b→okB (C0.at w0 (LB st0.os G0)) (opened st0.os.length es) (openG G es) w b:=by
  rintro b ⟨b1,b2,b3⟩
  have hsize:w0.heap.size≤w.heap.size:=h.size
  refine⟨by omega,fun hb=> ?_,b3⟩
  exact b2 ((p1.inX b (hLB b hb)).2.2 b1)
 have hS0:Same (okB C0 st0.os G0 w0) w0 w:=fun b hb=>h.frame b hb.1 hb.2.1
 have hnd:=nodupB_nodup hs2
 obtain⟨hrel,_⟩:=open_ok (ts1:=setTs (keepT (sh.objs.map (·.1)) sh.keep st0.ts 0) (openSlots vs 0 sh.slots).1) p1 p2 (n:=st0.os.length) hn (by rw[setTs_len,keepT_len,hsz];exact h0.tsz) (by
  intro j d hj
  rcases setTs_get _ _ hj with hm |⟨hno,hk⟩
  ·rcases openSlots_mem hm with⟨i,k,a,b⟩ |⟨i,s,e,a,b⟩
   ·simp only[Nat.zero_add]at a b
    obtain⟨f1,f2⟩:=p5 i j k a
    rw[etaV_self f1]at b
    subst b
    have r1:=repT1_fits (f2.mono hokF (fun _ _=>rfl)) f1
    refine⟨?_,fun id hid=>by rw[fits_refsD f1]at hid;cases hid⟩
    generalize vs.getD i .undef=d at r1
    cases d<;>first |exact r1 |exact r1.elim
   ·simp only[Nat.zero_add]at a b
    obtain⟨x,x1,x2,⟨nb,l,x3,x4⟩,x5⟩:=p6 i j s e a
    subst b
    obtain⟨k,k1,k2⟩:=p2.row x x1 e nb l x3
    have hlen:=rowR_len k2
    rw[x5,x4]at hlen
    refine⟨own_rept hlen ?_ ?_,fun id hid=> ?_⟩
    ·rw[←x2,hat x x1,x3]
     simp[oSh,x4]
    ·rw[←x2,openG_at p2.num x1,x5]
    ·simp[refsD,refs1,refs0,refsb]at hid
     subst hid
     rw[←x2]
     exact halive x x1
  ·rcases keepT_get _ _ _ _ _ _ hk with rfl |⟨g1,g2,g3⟩
   ·exact⟨trivial,fun id hid=>by simp[refsD,refs1,refs0,refsb]at hid⟩
   ·rw[Nat.zero_add]at g1
    have hr:=h0.ts j d g2
    rw[←hkeep j g1]at hr
    refine⟨hr.mono hok0 hS0 fun id hid=> ?_,fun id hid=> ?_⟩
    ·have hin:=g3 id hid
     obtain⟨x,x1,x2,x3,x4,x5⟩:=p7 id hin
     left
     refine⟨?_, ?_⟩
     ·rw[←x2,hat x x1,x5]
      rw[x2]
      exact same_shape h h0 hp hp0 hin (hG id hin)
     ·rw[←x2,openG_at p2.num x1,x3,x2]
      exact hG id hin
    ·obtain⟨x,x1,x2,_⟩:=p7 id (g3 id hid)
     rw[←x2]
     exact halive x x1)
 refine⟨openG G es,by rw[hst];exact hrel,fun i hi=> ?_⟩
 obtain⟨x,x1,x2,x3,_⟩:=p7 i hi
 refine⟨?_, ?_⟩
 ·rw[←x2,openG_at p2.num x1,x3,x2]
 ·rw[hos,←x2]
  exact halive x x1
end
end
section
theorem wpIn_loop_fuel {F:Fence} {nn:Nat} {P:Program} {Q:Exit→Act→World→Prop} {a:Act} {w:World} {c:Code} (I:Nat→Act→World→Prop) (n0:Nat) (h₀:I n0 a w)
  (round:∀ n a w,I n a w→c.wpIn F nn P (Exit.then (fun a' w'=>∃ m,m<n∧I m a' w') Q) a w):(Code.loop c).wpIn F nn P Q a w:=by
 intro b k cs hro hb hr
 have key:∀ n a w,I n a w→∃ e a' w',Q e a' w'∧ArrivesIn (Machine.fenced P F) P (lone (b.atR a (.code c:: .inLoop c::k)) cs w) b k cs e a' w':=by
  intro n
  induction n using Nat.strongRecOn with
  |_ n ih=>
   intro a w hI
   obtain⟨e,a₁,w₁,hq,harr⟩:=round n a w hI b (.inLoop c::k) cs hro hb hr
   cases e with
   |normal=>
    obtain⟨m,hm,hI₁⟩:=hq
    obtain⟨e₂,a₂,w₂,hq₂,harr₂⟩:=ih m hm a₁ w₁ hI₁
    exact⟨e₂,a₂,w₂,hq₂,.of_steps (StepsIn.trans harr (.one (fenced_calm hb hr rfl) stepR_inLoop)) harr₂⟩
   |exit id=>exact⟨_,a₁,w₁,hq,.pass (x:= .inLoop c) rfl (fun _ _=> .inl (by simp)) harr⟩
   |goto l=>exact⟨_,a₁,w₁,hq,.pass (x:= .inLoop c) rfl (fun _ _=> .inl (by simp)) harr⟩
   |ret=>exact⟨_,a₁,w₁,hq,.pass (x:= .inLoop c) rfl (fun _ _=> .inl (by simp)) harr⟩
   |panic ch=>exact⟨_,a₁,w₁,hq,.pass (x:= .inLoop c) rfl (fun _ _=> .inl (by simp)) harr⟩
   |outgrown=>exact⟨_,a₁,w₁,hq,.pass (x:= .inLoop c) rfl (fun _ _=> .inl (by simp)) harr⟩
 obtain⟨e,a',w',hq,harr⟩:=key n0 a w h₀
 exact⟨e,a',w',hq,.of_steps (.one (fenced_calm hb hr rfl) stepR_loop) harr⟩
section
variable {P:Program} {b:Frame} {a:Act} {k:List Item} {cs:List Frame} {w:World}
theorem stepR_scope {c:Code}:step P (lone (b.atR a (.code (.scope c)::k)) cs w)= .next (lone (b.atR a (.code c:: .inScope c::k)) cs w):=
 step_lone_go (by simp[stepG,stepG.exec,Frame.atR])
theorem stepR_inScope {c:Code}:step P (lone (b.atR a (.inScope c::k)) cs w)= .next (lone (b.atR a k) cs w):=
 step_lone_go (by simp[stepG,stepG.exec,Frame.atR])
end
theorem wpIn_scope_straight {F:Fence} {nn:Nat} {P:Program} {Q:Exit→Act→World→Prop} {a:Act} {w:World} {c:Code} (h:c.wpIn F nn P (Exit.noGoto Q) a w):(Code.scope c).wpIn F nn P Q a w:=by
 intro b k cs hro hb hr
 have h0:(lone (b.atR a (.code (.scope c)::k)) cs w).fenced P F:=fenced_calm hb hr rfl
 obtain⟨e,a₁,w₁,hq,harr⟩:=h b (.inScope c::k) cs hro hb hr
 cases e with
 |normal=>exact⟨.normal,a₁,w₁,hq,.head h0 stepR_scope (StepsIn.trans harr (.one (fenced_calm hb hr rfl) stepR_inScope))⟩
 |exit id=>exact⟨.exit id,a₁,w₁,hq,fun k' hk=> .head h0 stepR_scope (harr.1 k' (by simp[exitTo,hk])),fun hrr hk=>by
   obtain⟨k₁,h1,h2⟩:=harr.2 hrr (by simp[exitTo,hk])
   exact⟨k₁,h1,.head h0 stepR_scope h2⟩⟩
 |goto l=>exact hq.elim
 |ret=>exact⟨_,a₁,w₁,hq,.of_steps (.one h0 stepR_scope) harr⟩
 |panic ch=>exact⟨_,a₁,w₁,hq,.of_steps (.one h0 stepR_scope) harr⟩
 |outgrown=>exact⟨_,a₁,w₁,hq,.of_steps (.one h0 stepR_scope) harr⟩
def exOk:Ex→Exit→Prop
 | .norm,.normal=>True
 | .exit i,.exit j=>i=j
 | .ret,.ret=>True
 |_,_=>False
theorem putT_len {ts:List D} {d:Option Nat} {v:D}:(putT ts d v).length=ts.length:=by cases d<;>simp[putT]
theorem step_len {E:Env} {d:DOper} {st st':St} {lg:Lg} (h:stepS E d st=some (st',lg)):st'.os.length=st.os.length∧st'.ts.length=st.ts.length:=by
 obtain⟨v,ws,_,_,h3⟩:=step_local h
 have:=h3 st (fun _ _=>rfl) (fun _ _=>rfl) rfl
 rw[h]at this
 simp only[zq5,Prod.mk.injEq,and_true]at this
 subst this
 exact⟨wrL_len _ _,putT_len⟩
theorem opsS_len {E:Env}:∀ {ds:List DOper} {st st':St} {lg:List Lg},opsS E ds st=some (st',lg)→st'.os.length=st.os.length∧st'.ts.length=st.ts.length
 |[],st,st',lg,h=>by
  simp only[opsS,opsK,zq5,Prod.mk.injEq]at h
  obtain⟨rfl,rfl⟩:=h
  exact⟨rfl,rfl⟩
 |d::ds,st,st',lg,h=>by
  obtain⟨s1,l,lg1,h1,h2,rfl⟩:=opsS_cons h
  obtain⟨a1,a2⟩:=step_len h1
  obtain⟨b1,b2⟩:=opsS_len h2
  exact⟨b1.trans a1,b2.trans a2⟩
structure Out {R:Type} (K:Ex→St→Option R) (r:R) (C:Cx) (a:Act) (st:St) (G:Gh) (S ds:List Nat) (e:Exit) (a':Act) (w':World) (ex:Ex) (st':St) (G':Gh):Prop where
 k:K ex st'=some r
 ex:exOk ex e
 rel:Rel C a'.tmps st' G' w'
 df:a'.defers=a.defers
 ol:st'.os.length=st.os.length
 tl:st'.ts.length=st.ts.length
 keep:∀ i,i∈S→G' i=G i∧isDead (st'.os.getD i .gone)=false
 tm:∀ j,j∉ds→a'.tmps.getD j undef=a.tmps.getD j undef
abbrev OutE {R:Type} (K:Ex→St→Option R) (r:R) (C:Cx) (a:Act) (st:St) (G:Gh) (S ds:List Nat) (e:Exit) (a':Act) (w':World):Prop:=∃ ex st' G',Out K r C a st G S ds e a' w' ex st' G'
section
variable {P:Program} {E:Env}
theorem code_ok (hK:Ok P E) {N:Nat} {ro:Option Nat}:∀ (c:Code) (d:DCode) (S:List Nat),chkCode P E.ty N S c d=true→∀ {C:Cx},YOk C P E→E.ty=C.ty→∀ {R:Type} (k:Nat) (st:St) (K:Ex→St→Option R) (r:R) (a:Act) (w:World) (G:Gh),codeK E k d st K=some r→Rel C a.tmps st G w→st.os.length=N→
  (∀ i,i∈S→isDead (st.os.getD i .gone)=false)→c.wpIn (wd ro) 0 P (OutE K r C a st G S (dstsOf d)) a w:=by
 intro c
 induction c with
 |skip=>
  intro d S hc C hY hE R k st K r a w G he h hN hS
  cases d<;>simp[chkCode]at hc<;>try (simp[codeK]at he;done)
  exact wpIn_skip ⟨.norm,st,G,he,trivial,h,rfl,rfl,rfl,fun i hi=>⟨rfl,hS i hi⟩,fun _ _=>rfl⟩
 |label l=>
  intro d S hc C hY hE R k st K r a w G he h hN hS
  cases d<;>simp[chkCode]at hc<;>try (simp[codeK]at he;done)
  exact wpIn_label ⟨.norm,st,G,he,trivial,h,rfl,rfl,rfl,fun i hi=>⟨rfl,hS i hi⟩,fun _ _=>rfl⟩
 |goto l=>
  intro d S hc C hY hE R k st K r a w G he h hN hS
  cases d<;>first |(simp[chkCode]at hc;done) |(simp[codeK]at he;done)
 |refuse=>
  intro d S hc C hY hE R k st K r a w G he h hN hS
  cases d<;>first |(simp[chkCode]at hc;done) |(simp[codeK]at he;done)
 |rangeFunc f ps as body=>
  intro d S hc C hY hE R k st K r a w G he h hN hS
  cases d<;>first |(simp[chkCode]at hc;done) |(simp[codeK]at he;done)
 |exit id=>
  intro d S hc C hY hE R k st K r a w G he h hN hS
  cases d<;>simp[chkCode]at hc<;>try (simp[codeK]at he;done)
  subst hc
  exact wpIn_exit ⟨_,st,G,he,rfl,h,rfl,rfl,rfl,fun i hi=>⟨rfl,hS i hi⟩,fun _ _=>rfl⟩
 |ret=>
  intro d S hc C hY hE R k st K r a w G he h hN hS
  cases d<;>simp[chkCode]at hc<;>try (simp[codeK]at he;done)
  exact wpIn_ret ⟨.ret,st,G,he,trivial,h,rfl,rfl,rfl,fun i hi=>⟨rfl,hS i hi⟩,fun _ _=>rfl⟩
 |scope c ih=>
  intro d S hc C hY hE R k st K r a w G he h hN hS
  have hc':chkCode P E.ty N S c d=true:=by cases d<;>first |exact hc |simp[chkCode]
  refine wpIn_scope_straight (wpIn_mono (ih d S hc' hY hE k st K r a w G he h hN hS) fun e a' w' ho=> ?_)
  cases e with
  |goto l=>
   obtain⟨ex,st',G',ho⟩:=ho
   have:=ho.ex
   cases ex<;>exact this.elim
  |_=>exact ho
 |seq x y ihx ihy=>
  intro d S hc C hY hE R k st K r a w G he h hN hS
  cases d with
  |seq dx dy=>
   simp only[chkCode,zq3]at hc
   simp only[codeK]at he
   refine wpIn_seq (wpIn_mono (ihx dx S hc.1 hY hE k st _ r a w G he h hN hS) fun e a1 w1 ho=> ?_)
   obtain⟨ex,st1,G1,o1⟩:=ho
   have hex:=o1.ex
   have hk:=o1.k
   have out:(∀ i,i∈S→G1 i=G i∧isDead (st1.os.getD i .gone)=false):=o1.keep
   cases ex with
   |norm=>
    cases e<;>first |exact hex.elim |skip
    refine wpIn_mono (ihy dy S hc.2 hY hE k st1 K r a1 w1 G1 hk o1.rel (o1.ol.trans hN) (fun i hi=>(o1.keep i hi).2)) fun e a2 w2 ho=> ?_
    obtain⟨ex2,st2,G2,o2⟩:=ho
    exact⟨ex2,st2,G2,o2.k,o2.ex,o2.rel,o2.df.trans o1.df,o2.ol.trans o1.ol,o2.tl.trans o1.tl,fun i hi=>⟨(o2.keep i hi).1.trans (o1.keep i hi).1,(o2.keep i hi).2⟩,
     fun j hj=>(o2.tm j fun hm=>hj (List.mem_append.2 (.inr hm))).trans (o1.tm j fun hm=>hj (List.mem_append.2 (.inl hm)))⟩
   |exit id=>
    cases e<;>first |exact hex.elim |skip
    exact⟨_,st1,G1,hk,hex,o1.rel,o1.df,o1.ol,o1.tl,o1.keep,fun j hj=>o1.tm j fun hm=>hj (List.mem_append.2 (.inl hm))⟩
   |ret=>
    cases e<;>first |exact hex.elim |skip
    exact⟨_,st1,G1,hk,hex,o1.rel,o1.df,o1.ol,o1.tl,o1.keep,fun j hj=>o1.tm j fun hm=>hj (List.mem_append.2 (.inl hm))⟩
  |_=>first |(simp[chkCode]at hc;done) |(simp[codeK]at he;done)
 |cond cnd x y ihx ihy=>
  intro d S hc C hY hE R k st K r a w G he h hN hS
  cases d with
  |cond dc dx dy=>
   simp only[chkCode,zq3]at hc
   simp only[codeK]at he
   split at he
   ·rename_i t ht
    have hv:=(val_rep (df:=a.defers) h hc.1.1).1
    rw[ht]at hv
    have hb:=inv_bool hv
    have known:∀ {b:Bool},dc.val st.ts= .bool b→dc.known b st=st:=by
     intro b hb
     cases dc with
     |c _=>rfl
     |t n=>
      simp only[Opd.known]
      rw[set_bool hb]
    cases t with
    |true=>
     simp only at he
     rw[known ht]at he
     refine wpIn_cond_true hb (wpIn_mono (ihx dx S hc.1.2 hY hE k st K r a w G he h hN hS) fun e a' w' ho=> ?_)
     obtain⟨ex,st1,G1,o1⟩:=ho
     exact⟨ex,st1,G1,o1.k,o1.ex,o1.rel,o1.df,o1.ol,o1.tl,o1.keep,fun j hj=>o1.tm j fun hm=>hj (List.mem_append.2 (.inl hm))⟩
    |false=>
     simp only at he
     rw[known ht]at he
     refine wpIn_cond_false hb (wpIn_mono (ihy dy S hc.2 hY hE k st K r a w G he h hN hS) fun e a' w' ho=> ?_)
     obtain⟨ex,st1,G1,o1⟩:=ho
     exact⟨ex,st1,G1,o1.k,o1.ex,o1.rel,o1.df,o1.ol,o1.tl,o1.keep,fun j hj=>o1.tm j fun hm=>hj (List.mem_append.2 (.inr hm))⟩
   ·cases he
  |_=>first |(simp[chkCode]at hc;done) |(simp[codeK]at he;done)
 |block id c ih=>
  intro d S hc C hY hE R k st K r a w G he h hN hS
  cases d with
  |block id' dc=>
   simp only[chkCode,zq3,beq_iff_eq]at hc
   obtain⟨rfl,hc⟩:=hc
   simp only[codeK]at he
   refine wpIn_block (wpIn_mono (ih dc S hc hY hE k st _ r a w G he h hN hS) fun e a' w' ho=> ?_)
   obtain⟨ex,st1,G1,o1⟩:=ho
   have hex:=o1.ex
   have hk:=o1.k
   cases ex with
   |norm=>
    cases e<;>first |exact hex.elim |skip
    exact⟨_,st1,G1,hk,trivial,o1.rel,o1.df,o1.ol,o1.tl,o1.keep,o1.tm⟩
   |ret=>
    cases e<;>first |exact hex.elim |skip
    exact⟨_,st1,G1,hk,trivial,o1.rel,o1.df,o1.ol,o1.tl,o1.keep,o1.tm⟩
   |exit i=>
    cases e with
    |exit j=>
     have hij:i=j:=hex
     subst hij
     simp only[Exit.inBlock]
     simp only at hk
     split at hk
     ·rename_i hb
      rw[Nat.beq_eq]at hb
      rw[if_pos hb]
      exact⟨_,st1,G1,hk,trivial,o1.rel,o1.df,o1.ol,o1.tl,o1.keep,o1.tm⟩
     ·rename_i hb
      have: ¬i=id:=fun e=>by rw[e,Nat.beq_refl]at hb;cases hb
      rw[if_neg this]
      exact⟨_,st1,G1,hk,rfl,o1.rel,o1.df,o1.ol,o1.tl,o1.keep,o1.tm⟩
    |_=>exact hex.elim
  |_=>first |(simp[chkCode]at hc;done) |(simp[codeK]at he;done)
 |region id ops draw=>
  intro d S hc C hY hE R k st K r a w G he h hN hS
  cases d with
  |region draw' ds=>
   simp only[chkCode,zq3,beq_iff_eq,Bool.or_eq_true,Bool.not_eq_true']at hc
   obtain⟨⟨rfl,hc⟩,hb⟩:=hc
   rw[hE]at hc
   simp only[codeK]at he
   rw[opsK_nat]at he
   cases hops:opsS E ds st with
   |none=>simp[hops]at he
   |some p=>
    obtain⟨st1,lg⟩:=p
    simp only[hops,Option.bind_some]at he
    obtain⟨ln1,ln2⟩:=opsS_len hops
    have fin:∀ {w0:World},K .norm st1=some r→∀ a' w' G',Came C a st G (ds.filterMap (·.dst)) a' st1 G' w'→OutE K r C a st G S (dstsOf (.region draw ds)) .normal a' w':=fun hk a' w' G' hcm=>
     ⟨.norm,st1,G',hk,trivial,hcm.rel,hcm.df,ln1,ln2,fun i hi=>hcm.live i (hS i hi),fun j hj=>hcm.tm j hj⟩
    cases draw with
    |false=>
     exact wpIn_region_list (ops_ok hK hY hE ops.toList ds hc a st st1 G w lg h hops (fin (w0:=w) he))
    |true=>
     simp only at he
     split at he
     ·rename_i hd
      have hb':backOk 0 ops.toList=true:=by rcases hb with hb |hb;· cases hb
                                            ·exact hb
      have hmx:P.follows .mixedOrders=true:=hK.mx
      obtain⟨hrun,hlg⟩:=RunI.of_ops (ds0:=ds) (L:=fun i=>lg.getD i ([],[])) ds 0 st st1 lg (fun j=>by rw[Nat.zero_add]) (fun j hj=>by rw[Nat.zero_add]) hops
      have hsz:ops.size=ds.length:=by simpa using (chkOpers_get hc).1
      have hall:(List.range ops.size).filter (fun i=> !(Array.replicate ops.size false).getD i true)=List.range' 0 ds.length:=by
       rw[←hsz,←List.range_eq_range',List.filter_eq_self]
       intro i hi
       have:i<ops.size:=by simpa using hi
       simp[zq2,this]
      have hw:Rel C a.tmps st G {w with drawn:=w.drawn+1}:=h.world (fun b hb=>rfl) (Nat.le_refl _) rfl rfl rfl
      refine wpIn_region_any hmx (any_ok hK hY hE hc hb' hlg hd (fin (w0:=w) he) ops.size (Array.replicate ops.size false) a st G _ (by simp) ?_ ?_ ?_ ⟨hw,rfl,fun i hi=>⟨rfl,hi⟩,fun _ _=>rfl⟩)
      ·rw[hall];simp[hsz]
      ·intro i hi
       rcases Nat.lt_or_ge i ops.size with hlt |hge
       ·simp[zq2,hlt]at hi
       ·intro q hq
        have hl:=(ancs_spec ds []).1
        simp at hl
        rw[zq1,List.getElem?_eq_none (by omega)]at hq
        simp at hq
      ·rw[hall];exact hrun
     ·cases he
  |_=>first |(simp[chkCode]at hc;done) |(simp[codeK]at he;done)
 |loop c ih=>
  intro d S hc C hY hE R k st K r a w G he h hN hS
  cases d with
  |loop sh dc=>
   simp only[chkCode,zq3]at hc
   obtain⟨⟨⟨⟨⟨⟨⟨⟨c1,c2⟩,c3⟩,c4⟩,c5⟩,c6⟩,c7⟩,c8⟩,c9⟩:=hc
   simp only[codeK]at he
   split at he
   ·rename_i vs0 hp0
    generalize hF:(fun (vs:List D) (again:List D→Option R)=>codeK E k dc (unpack sh st vs) fun ex st'=>match ex with
     | .norm=>match pack sh st' with |some vs'=>again vs' |none=>none
     |ex=>K ex st')=F at he
    have hty:(C.at w (LB st.os G)).ty=C.ty:=rfl
    have hsub:∀ i,i∈S→i∈sh.objs.map (·.1):=by
     intro i hi
     have:=List.all_eq_true.1 c1 i hi
     simpa using this
    refine wpIn_loop_fuel (fun n a' w'=>∃ vs stc Gc,iter n F vs=some r∧Rel (C.at w (LB st.os G)) a'.tmps stc Gc w'∧pack sh stc=some vs∧a'.defers=a.defers∧a'.tmps.size=a.tmps.size∧
     (∀ i,i∈sh.objs.map (·.1)→Gc i=G i)∧∀ j,j∉dstsOf dc→a'.tmps.getD j undef=a.tmps.getD j undef) k ⟨vs0,st,G,he,h.rebase,hp0,rfl,rfl,fun _ _=>rfl,fun _ _=>rfl⟩ ?_
    rintro n a1 w1 ⟨vs,stc,Gc,i1,i2,i3,i4,i5,i6,i7⟩
    cases n with
    |zero=>simp[iter]at i1
    |succ n=>
     simp only[iter]at i1
     rw[←hF]at i1
     simp only at i1
     rw[hF]at i1
     have hkp:∀ j,j∈sh.keep→j∉dstsOf dc:=by
      intro j hj
      have:=List.all_eq_true.1 c3 j hj
      simpa using this
     obtain⟨G1,u1,u2⟩:=unpack_ok h i2 i3 hp0 c4 c5 c6 (by rw[←hE];exact c7) (by rw[←hE];exact c8) (fun s hs=>by
      have:=List.all_eq_true.1 c9 s hs
      rw[hN]
      simpa using this) i5 (fun j hj=>i7 j (hkp j hj)) i6
     have hul:(unpack sh st vs).os.length=st.os.length:=by
      show (wrL (List.replicate st.os.length .dead) _).length=_
      rw[wrL_len,List.length_replicate]
     have hut:(unpack sh st vs).ts.length=st.ts.length:=by
      show (setTs (keepT _ _ _ _) _).length=_
      rw[setTs_len,keepT_len]
     refine wpIn_mono (ih dc (sh.objs.map (·.1)) c2 (C:=C.at w (LB st.os G)) (hY.at h) hE k (unpack sh st vs) _ r a1 w1 G1 i1 u1 (hul.trans hN) (fun i hi=>(u2 i hi).2)) fun e a2 w2 ho=> ?_
     obtain⟨ex,st2,G2,o1⟩:=ho
     have hex:=o1.ex
     have hk:=o1.k
     have final:∀ ex',K ex' st2=some r→exOk ex' e→OutE K r C a st G S (dstsOf (.loop sh dc)) e a2 w2:=fun ex' hk' hex'=>
      ⟨ex',st2,G2,hk',hex',h.unbase o1.rel,o1.df.trans i4,o1.ol.trans hul,o1.tl.trans hut,fun i hi=>⟨((o1.keep i (hsub i hi)).1.trans (u2 i (hsub i hi)).1).trans (i6 i (hsub i hi)),(o1.keep i (hsub i hi)).2⟩,
       fun j hj=>(o1.tm j hj).trans (i7 j hj)⟩
     cases ex with
     |norm=>
      cases e<;>first |exact hex.elim |skip
      simp only at hk
      split at hk
      ·rename_i vs' hp'
       refine⟨n,Nat.lt_succ_self n,vs',st2,G2,hk,o1.rel,hp',o1.df.trans i4, ?_,fun i hi=>((o1.keep i hi).1.trans (u2 i hi).1).trans (i6 i hi),fun j hj=>(o1.tm j hj).trans (i7 j hj)⟩
       rw[o1.rel.tsz,o1.tl,hut]
       exact h.tsz.symm
      ·cases hk
     |exit id=>
      cases e<;>first |exact hex.elim |skip
      exact final _ hk hex
     |ret=>
      cases e<;>first |exact hex.elim |skip
      exact final _ hk hex
   ·cases he
  |_=>first |(simp[chkCode]at hc;done) |(simp[codeK]at he;done)
end
end
section
theorem pureD_rep {C:Cx} {os:List Obj} {G:Gh} {w:World} {v:Value} {d:D} (h:RepV C.ty w (okB C os G w) v d) (hp:pureD d=true):RepT C os G w v d:=by
 cases h with
 |agg cs ds hs hrep=>
  refine⟨cs,rfl,hs,fun j hj=> ?_⟩
  simp only[pureD,List.all_eq_true]at hp
  exact (hrep j hj).t0 (hp _ (mem_getD hj))
 |int k n=>exact .int _ _
 |bool b=>exact .bool _
 |str s=>exact .str _
 |slnil e=>exact .slnil _
 |zsnil e=>exact .zsnil _
 |nilfn=>exact .nilfn
 |sl e ad c els k cs hk hsp hc hf hok hcell hrep=>exact .sl e ad c els k cs hk hsp hc hf hok hcell hrep
 |zs e ad k hk hsp=>exact .zs e ad k hk hsp
 |fn f caps dc hs hrep=>exact .fn f caps dc hs hrep
 |rp b cs off vals hq hok hcell hrep=>exact .rp b cs off vals hq hok hcell hrep
 |mpl b es clock ks vs hb hh hs hv hbo hk hvv=>exact .mpl b es clock ks vs hb hh hs hv hbo hk hvv
def EnterAt (i:Nat) (a:Am) (d dt:D) (ws:Wr):Prop:=
 match a with
 | .p=>dt=d∧pureD d=true
 | .g e=>∃ nb els,d= .ov e nb els∧dt= .own e i els.length∧(i,Obj.arr e nb els)∈ws
 | .m e=>∃ nb els,d= .ov e nb els∧dt= .own e i els.length∧(i,Obj.arr e nb els)∈ws
 | .v ks=>∃ cs,d= .pv cs∧fitsL ks cs=true∧dt= .ptr i 0∧(i,Obj.var cs)∈ws
theorem EnterAt.mono {i:Nat} {a:Am} {d dt:D} {ws ws':Wr} (h:EnterAt i a d dt ws) (hs:∀ p,p∈ws→p∈ws'):EnterAt i a d dt ws':=by
 cases a with
 |p=>exact h
 |g e=>obtain⟨nb,els,a,b,c⟩:=h;exact⟨nb,els,a,b,hs _ c⟩
 |m e=>obtain⟨nb,els,a,b,c⟩:=h;exact⟨nb,els,a,b,hs _ c⟩
 |v ks=>obtain⟨cs,a,b,c,d⟩:=h;exact⟨cs,a,b,c,hs _ d⟩
def EnterSpec (i:Nat) (am:List Am) (l dl:List D) (ws:Wr):Prop:=
 dl.length=am.length∧l.length=am.length∧
  (∀ (j:Nat) (a:Am),am[j]? =some a→EnterAt (i+j) a (l.getD j .undef) (dl.getD j .undef) ws)∧
  (∀ p:Nat×Obj,p∈ws→∃ (j:Nat) (a:Am),am[j]? =some a∧a≠ .p∧p.1=i+j∧EnterAt (i+j) a (l.getD j .undef) (dl.getD j .undef) [p])∧(ws.map (·.1)).Nodup∧(∀ p:Nat×Obj,p∈ws→i≤p.1)
theorem enter_spec:∀ {am:List Am} {l dl:List D} {ws:Wr} (i:Nat),enterArgs i am l=some (dl,ws)→EnterSpec i am l dl ws
 |[],[],dl,ws,i,h=>by
  simp[enterArgs]at h
  obtain⟨rfl,rfl⟩:=h
  exact⟨rfl,rfl,fun j a hj=>by simp at hj,fun p hp=>(by cases hp),List.nodup_nil,fun p hp=>(by cases hp)⟩
 |a::am,d::l,dl,ws,i,h=>by
  have main:∀ (dt:D) (w1:Wr) (dl':List D) (ws':Wr),enterArgs (i+1) am l=some (dl',ws')→dl=dt::dl'→ws=w1++ws'→(w1=[]∨(a≠ .p∧∃ o,w1=[(i,o)]))→EnterAt i a d dt w1→EnterSpec i (a::am) (d::l) dl ws:=by
   intro dt w1 dl' ws' hr hdl hws hw1 hen
   obtain⟨h1,h2,h3,h4,h5,h6⟩:=enter_spec (i+1) hr
   subst hdl hws
   have g3:∀ (j:Nat) (b:Am),(a::am)[j]? =some b→EnterAt (i+j) b ((d::l).getD j .undef) ((dt::dl').getD j .undef) (w1++ws'):=by
    intro j b hj
    cases j with
    |zero=>
     simp at hj
     subst hj
     exact hen.mono fun p hp=>List.mem_append.2 (.inl hp)
    |succ j=>
     have:=h3 j b (by simpa using hj)
     rw[show i+(j+1)=i+1+j by omega,List.getD_cons_succ,List.getD_cons_succ]
     exact this.mono fun p hp=>List.mem_append.2 (.inr hp)
   have g4:∀ p:Nat×Obj,p∈w1++ws'→∃ (j:Nat) (b:Am),(a::am)[j]? =some b∧b≠ .p∧p.1=i+j∧EnterAt (i+j) b ((d::l).getD j .undef) ((dt::dl').getD j .undef) [p]:=by
    intro p hp
    rcases List.mem_append.1 hp with hp |hp
    ·rcases hw1 with rfl |⟨hnp,o,rfl⟩
     ·cases hp
     ·have:=List.mem_singleton.1 hp
      subst this
      exact⟨0,a,rfl,hnp,rfl,hen⟩
    ·obtain⟨j,b,a1,a0,a2,a3⟩:=h4 p hp
     exact⟨j+1,b,by simpa using a1,a0,by omega,by rw[show i+(j+1)=i+1+j by omega,List.getD_cons_succ,List.getD_cons_succ];exact a3⟩
   have g5:((w1++ws').map (·.1)).Nodup:=by
    rcases hw1 with rfl |⟨hnp,o,rfl⟩
    ·simpa using h5
    ·simp only[List.cons_append,List.nil_append,List.map_cons,List.nodup_cons]
     refine⟨fun hm=> ?_,h5⟩
     obtain⟨p,hp,hpi⟩:=List.mem_map.1 hm
     have:=h6 p hp
     omega
   have g6:∀ p:Nat×Obj,p∈w1++ws'→i≤p.1:=by
    intro p hp
    obtain⟨j,b,_,_,h,_⟩:=g4 p hp
    omega
   exact⟨by simp[h1],by simp[h2],g3,g4,g5,g6⟩
  cases a with
  |p=>
   simp only[enterArgs]at h
   split at h
   ·rename_i l' ws' hp hr
    simp only[zq5,Prod.mk.injEq]at h
    obtain⟨rfl,rfl⟩:=h
    exact main d [] l' ws' hr rfl rfl (.inl rfl) ⟨rfl,hp⟩
   ·cases h
  |g e=>
   cases d with
   |ov e' nb els=>
    simp only[enterArgs]at h
    split at h
    ·rename_i l' ws' hr
     split at h
     ·rename_i hee
      subst hee
      cases h
      exact main _ [(i,.arr e nb els)] l' ws' hr rfl rfl (.inr ⟨by simp,_,rfl⟩) ⟨nb,els,rfl,rfl,List.mem_singleton.2 rfl⟩
     ·cases h
    ·cases h
   |_=>simp[enterArgs]at h
  |m e=>
   cases d with
   |ov e' nb els=>
    simp only[enterArgs]at h
    split at h
    ·rename_i l' ws' hr
     split at h
     ·rename_i hee
      subst hee
      cases h
      exact main _ [(i,.arr e nb els)] l' ws' hr rfl rfl (.inr ⟨by simp,_,rfl⟩) ⟨nb,els,rfl,rfl,List.mem_singleton.2 rfl⟩
     ·cases h
    ·cases h
   |_=>simp[enterArgs]at h
  |v ks=>
   cases d with
   |pv cs=>
    simp only[enterArgs]at h
    split at h
    ·rename_i l' ws' hf hr
     simp only[zq5,Prod.mk.injEq]at h
     obtain⟨rfl,rfl⟩:=h
     exact main _ [(i,.var cs)] l' ws' hr rfl rfl (.inr ⟨by simp,_,rfl⟩) ⟨cs,rfl,hf,rfl,List.mem_singleton.2 rfl⟩
    ·cases h
   |_=>simp[enterArgs]at h
 |[],_::_,_,_,i,h=>by simp[enterArgs]at h
 |_::_,[],_,_,i,h=>by simp[enterArgs]at h
end
section
theorem lent_get:∀ {am:List Am} {k i:Nat},i∈lentIds k am→∃ (j:Nat) (a:Am),am[j]? =some a∧lentA a=true∧i=k+j
 |[],k,i,h=>by simp[lentIds]at h
 |a::am,k,i,h=>by
  have up:i∈lentIds (k+1) am→∃ (j:Nat) (b:Am),(a::am)[j]? =some b∧lentA b=true∧i=k+j:=fun h=>by
   obtain⟨j,b,h1,h2,h3⟩:=lent_get h
   exact⟨j+1,b,by simpa using h1,h2,by omega⟩
  cases a with
  |p=>exact up h
  |g e=>exact up h
  |m e=>
   simp only[lentIds,List.mem_cons]at h
   rcases h with rfl |h
   ·exact⟨0,_,rfl,rfl,rfl⟩
   ·exact up h
  |v ks=>
   simp only[lentIds,List.mem_cons]at h
   rcases h with rfl |h
   ·exact⟨0,_,rfl,rfl,rfl⟩
   ·exact up h
theorem lent_mem:∀ {am:List Am} {k j:Nat} {a:Am},am[j]? =some a→lentA a=true→k+j∈lentIds k am
 |[],k,j,a,h,_=>by simp at h
 |b::am,k,j,a,h,hl=>by
  cases j with
  |zero=>
   simp at h
   subst h
   cases b<;>first |(simp[lentIds];done) |cases hl
  |succ j=>
   have:=lent_mem (k:=k+1) (show am[j]? =some a by simpa using h) hl
   rw[show k+1+j=k+(j+1)by omega]at this
   cases b<;>simp[lentIds,this]
theorem entry_rel {ty:TypeId→Option Vk} {am:List Am} {l dl:List D} {ws:Wr} {w:World} {vs:Array Value} {blks:Nat→Option Nat} {X:Nat→Prop} {nobj nt:Nat}
  (pre:Pre ty am l w vs blks X) (he:enterArgs 0 am l=some (dl,ws)) (hn:am.length≤nobj):
  Rel ⟨ty,X,w,fun b=>∃ i,blks i=some b,(0,undef)⟩ (vs++Array.replicate (nt - vs.size) undef) ⟨dl++List.replicate (nt - dl.length) (.tup []),wrL (List.replicate nobj .dead) ws⟩ (fun i=>(vs.getD i undef,blks i)) w∧
   ∀ i,i∈lentIds 0 am→isDead ((wrL (List.replicate nobj Obj.dead) ws).getD i .gone)=false:=by
 obtain⟨h1,h2,h3,h4,h5,h6⟩:=enter_spec 0 he
 simp only[Nat.zero_add]at h3 h4
 generalize hC:(⟨ty,X,w,fun b=>∃ i,blks i=some b,(0,undef)⟩:Cx)=C
 generalize hos:wrL (List.replicate nobj Obj.dead) ws=os
 generalize hG:(fun i=>(vs.getD i undef,blks i):Gh)=G
 have hGi:∀ i,G i=(vs.getD i undef,blks i):=fun i=>by rw[←hG]
 have hCt:C.ty=ty:=by rw[←hC]
 have hCX:C.X=X:=by rw[←hC]
 have hlen:os.length=nobj:=by rw[←hos,wrL_len,List.length_replicate]
 have key:∀ p q:Nat×Obj,p∈ws→q∈ws→p.1=q.1→p.2=q.2:=by
  have aux:∀ {ws:Wr},(ws.map (·.1)).Nodup→∀ p q:Nat×Obj,p∈ws→q∈ws→p.1=q.1→p.2=q.2:=by
   intro ws
   induction ws with
   |nil=>intro _ p q hp;cases hp
   |cons x xs ih=>
    intro hnd p q hp hq he
    simp only[List.map_cons,List.nodup_cons]at hnd
    rcases List.mem_cons.1 hp with rfl |g1<;>rcases List.mem_cons.1 hq with rfl |g2
    ·rfl
    ·exact absurd (List.mem_map.2 ⟨q,g2,he.symm⟩) hnd.1
    ·exact absurd (List.mem_map.2 ⟨p,g1,he⟩) hnd.1
    ·exact ih hnd.2 p q g1 g2 he
  exact aux h5
 have jlt:∀ {j:Nat} {a:Am},am[j]? =some a→j<am.length:=fun h=>(zq6.1 h).1
 have got:∀ p:Nat×Obj,p∈ws→os[p.1]? =some p.2:=by
  intro p hp
  rw[←hos]
  obtain⟨j,a,g1,_,g2,_⟩:=h4 p hp
  exact wrL_mem ws _ p key hp (by have:=jlt g1;simp;omega)
 have getO:∀ {i:Nat} {o:Obj},os[i]? =some o→o= .dead∨(i,o)∈ws:=by
  intro i o ho
  by_cases hx:∃ p,p∈ws∧p.1=i
  ·obtain⟨p,hp,rfl⟩:=hx
   have:=got p hp
   rw[ho]at this
   cases this
   exact .inr hp
  ·rw[←hos,wrL_not ws _ fun p hp he=>hx ⟨p,hp,he⟩,List.getElem?_replicate]at ho
   split at ho
   ·cases ho;exact .inl rfl
   ·cases ho
 have hLB:∀ b,LB os G b→∃ i,blks i=some b:=by
  rintro b ⟨i,o,_,_,hb⟩
  rw[hGi]at hb
  exact⟨i,hb⟩
 have hok:∀ b,(b<w.heap.size∧ ¬X b∧∀ j,blks j≠some b)→okB C os G w b:=by
  rintro b ⟨b1,b2,b3⟩
  refine⟨b1,fun hb=> ?_,by rw[hCX];exact b2⟩
  obtain⟨i,hi⟩:=hLB b hb
  exact b3 i hi
 have alive:∀ {i:Nat} {o:Obj},(i,o)∈ws→isDead o=false→isDead (os.getD i .gone)=false:=by
  intro i o hm hd
  rw[zq1,got _ hm]
  exact hd
 have tOk:∀ (j:Nat) (a:Am),am[j]? =some a→RepT C os G w (vs.getD j undef) (dl.getD j .undef)∧∀ id,id∈refsD (dl.getD j .undef)→isDead (os.getD id .gone)=false:=by
  intro j a ha
  have hen:=h3 j a ha
  have harg:=pre.args j a ha
  generalize l.getD j .undef=d at hen harg
  generalize dl.getD j .undef=dt at hen
  cases a with
  |p=>
   obtain⟨rfl,hp⟩:=hen
   obtain⟨_,_,hr⟩:=harg
   rw[←hCt]at hr
   exact⟨pureD_rep (hr.mono hok (fun _ _=>rfl)) hp,fun id hid=>by rw[repV_refs hr]at hid;cases hid⟩
  |g e=>
   obtain⟨nb,els,rfl,rfl,hm⟩:=hen
   obtain⟨nb',els',k,q1,q2,q3⟩:=harg
   cases q1
   refine⟨own_rept (rowR_len q3) ?_ (by rw[hGi]),fun id hid=> ?_⟩
   ·rw[oAt_of (got _ hm)];rfl
   ·simp[refsD,refs1,refs0,refsb]at hid
    subst hid
    exact alive hm rfl
  |m e=>
   obtain⟨nb,els,rfl,rfl,hm⟩:=hen
   obtain⟨nb',els',k,q1,q2,q3⟩:=harg
   cases q1
   refine⟨own_rept (rowR_len q3) ?_ (by rw[hGi]),fun id hid=> ?_⟩
   ·rw[oAt_of (got _ hm)];rfl
   ·simp[refsD,refs1,refs0,refsb]at hid
    subst hid
    exact alive hm rfl
  |v ks=>
   obtain⟨cs,rfl,hf,rfl,hm⟩:=hen
   obtain⟨cs',q1,_,g,cells,t,q2,q3,q4,q5,q6⟩:=harg
   refine⟨⟨⟨_,q2,rfl⟩, ?_⟩,fun id hid=> ?_⟩
   ·rw[oAt_of (got _ hm)]
    exact⟨g,by rw[hGi];exact q2,q2⟩
   ·simp[refsD,refs1,refs0]at hid
    subst hid
    exact alive hm rfl
 have tm:∀ (j:Nat) (d:D),(dl++List.replicate (nt - dl.length) (D.tup []))[j]? =some d→RepT C os G w ((vs++Array.replicate (nt - vs.size) undef).getD j undef) d∧∀ id,id∈refsD d→isDead (os.getD id .gone)=false:=by
  intro j d hj
  have hvs:=pre.sz
  rcases Nat.lt_or_ge j am.length with hlt |hge
  ·rw[List.getElem?_append_left (by omega)]at hj
   have:=tOk j am[j] (zq4 hlt)
   rw[zq1 (l:=dl),hj]at this
   simpa[zq2,Array.getElem?_append,show j<vs.size by omega]using this
  ·rw[List.getElem?_append_right (by omega),List.getElem?_replicate]at hj
   split at hj
   ·cases hj
    have hu:(vs++Array.replicate (nt - vs.size) undef).getD j undef=undef:=by
     rw[zq2,Array.getElem?_append,if_neg (by omega)]
     simp only[Array.getElem?_replicate]
     split<;>rfl
    rw[hu]
    exact⟨⟨#[],rfl,rfl,fun j hj=>by simp at hj⟩,fun id hid=>by simp[refsD]at hid⟩
   ·cases hj
 have oOk:∀ (i:Nat) (o:Obj),os[i]? =some o→ObjRel C os G w i o∧∀ id,id∈refsO o→isDead (os.getD id .gone)=false:=by
  intro i o ho
  rcases getO ho with rfl |hm
  ·exact⟨trivial,fun id hid=>by simp[refsO]at hid⟩
  ·obtain⟨j,a,g1,gnp,g2,hen⟩:=h4 _ hm
   simp only at g2
   subst g2
   have harg:=pre.args i a g1
   generalize l.getD i .undef=d at hen harg
   generalize dl.getD i .undef=dt at hen
   cases a with
   |p=>
    exact absurd rfl gnp
   |g e=>
    obtain⟨nb,els,rfl,rfl,hs⟩:=hen
    cases List.mem_singleton.1 hs
    obtain⟨nb',els',k,q1,q2,q3⟩:=harg
    cases q1
    refine⟨objRel_row.2 ⟨k,by rw[hCt];exact q2, ?_⟩,fun id hid=>by simp[refsO]at hid⟩
    rw[hGi,hCt]
    exact q3.mono hok
   |m e=>
    obtain⟨nb,els,rfl,rfl,hs⟩:=hen
    cases List.mem_singleton.1 hs
    obtain⟨nb',els',k,q1,q2,q3⟩:=harg
    cases q1
    refine⟨objRel_row.2 ⟨k,by rw[hCt];exact q2, ?_⟩,fun id hid=>by simp[refsO]at hid⟩
    rw[hGi,hCt]
    exact q3.mono hok
   |v ks=>
    obtain⟨cs,rfl,hf,rfl,hs⟩:=hen
    cases List.mem_singleton.1 hs
    obtain⟨cs',q1,hf',g,cells,t,q2,q3,q4,q5,q6⟩:=harg
    cases q1
    refine⟨⟨g,cells,t,by rw[hGi,q2,q3],q4,q5,fun j hj=> ?_⟩,fun id hid=>by simp only[refsO]at hid;rw[fitsL_refs hf]at hid;cases hid⟩
    obtain⟨s,_,hs⟩:=fitsL_get hf hj
    have hp:=fits_pure hs
    have:=(q6 j hj).mono hok (fun _ _=>rfl)
    rw[←hCt]at this
    exact⟨this.t0 hp,pure_cell0 hp⟩
 refine⟨?_,fun i hi=> ?_⟩
 ·subst hC
  exact {
   tsz:=by simp[pre.sz,h1]
   ts:=fun j d hj=>(tm j d hj).1
   os:=fun i o ho=>(oOk i o ho).1
   inj:=fun i j oi oj b _ _ _ _ hbi hbj=>by rw[hGi]at hbi hbj;exact pre.inj i j b hbi hbj
   inX:=fun b hb=>by
    obtain⟨i,hi⟩:=hLB b hb
    obtain⟨_,a1,a2⟩:=pre.blk i b hi
    exact⟨a2,a1,fun _=>⟨i,hi⟩⟩
   rT:=fun j d hj=>(tm j d hj).2
   rO:=fun i o ho=>(oOk i o ho).2
   tape:=rfl
   osw:=rfl
   out:=rfl
   size:=Nat.le_refl _
   frame:=fun _ _ _=>rfl
   xw:=fun b hb=>⟨pre.xlt b hb,fun ⟨i,hi⟩=>(pre.blk i b hi).2.2 hb⟩}
 ·obtain⟨j,a,g1,g2,g3⟩:=lent_get hi
  rw[Nat.zero_add]at g3
  subst g3
  have hen:=h3 i a g1
  cases a with
  |p=>cases g2
  |g e=>cases g2
  |m e=>obtain⟨nb,els,_,_,hm⟩:=hen;exact alive hm rfl
  |v ks=>obtain⟨cs,_,_,_,hm⟩:=hen;exact alive hm rfl
end
section
def oid:D→Option Nat
 | .own _ id _=>some id
 | .ownv _ id _ _=>some id
 |_=>none
def ridOf (st:St) (m:Rm) (r:ResM):Option Nat:=
 match m with
 | .o _=>(resVal st m r).bind oid
 | .p _=>none
def rids (st:St):List Rm→List ResM→List Nat
 |m::ms,r::rs=>match ridOf st m r with |some id=>id::rids st ms rs |none=>rids st ms rs
 |_,_=>[]
def ridAt (st:St) (rm:List Rm) (res:List ResM) (i:Nat):Option Nat:=(rm[i]?).bind fun m=>(res[i]?).bind fun r=>ridOf st m r
theorem ridAt_zero (st:St) (m:Rm) (rm:List Rm) (r:ResM) (res:List ResM):ridAt st (m::rm) (r::res) 0=ridOf st m r:=rfl
theorem ridAt_succ (st:St) (m:Rm) (rm:List Rm) (r:ResM) (res:List ResM) (i:Nat):ridAt st (m::rm) (r::res) (i+1)=ridAt st rm res i:=by simp[ridAt]
theorem rids_mem {st:St}:∀ {rm:List Rm} {res:List ResM} {i id:Nat},ridAt st rm res i=some id→id∈rids st rm res
 |[],_,i,id,h=>by simp[ridAt]at h
 |m::rm,[],i,id,h=>by
  simp only[ridAt]at h
  cases (m::rm)[i]? <;>simp at h
 |m::rm,r::res,i,id,h=>by
  cases i with
  |zero=>
   rw[ridAt_zero]at h
   simp[rids,h]
  |succ i=>
   rw[ridAt_succ]at h
   have:=rids_mem h
   simp only[rids]
   split
   ·exact List.mem_cons_of_mem _ this
   ·exact this
theorem rids_inj {st:St}:∀ {rm:List Rm} {res:List ResM} {i j id:Nat},(rids st rm res).Nodup→ridAt st rm res i=some id→ridAt st rm res j=some id→i=j
 |[],_,i,j,id,_,h,_=>by simp[ridAt]at h
 |m::rm,[],i,j,id,_,h,_=>by
  simp only[ridAt]at h
  cases (m::rm)[i]? <;>simp at h
 |m::rm,r::res,i,j,id,hn,hi,hj=>by
  have hrest:(rids st rm res).Nodup∧∀ x,ridOf st m r=some x→x∉rids st rm res:=by
   simp only[rids]at hn
   split at hn
   ·rename_i x hx
    rw[List.nodup_cons]at hn
    exact⟨hn.2,fun y hy=>by rw[hx]at hy;cases hy;exact hn.1⟩
   ·rename_i hx
    exact⟨hn,fun y hy=>by rw[hx]at hy;cases hy⟩
  cases i with
  |zero=>
   cases j with
   |zero=>rfl
   |succ j=>
    rw[ridAt_zero]at hi
    rw[ridAt_succ]at hj
    exact absurd (rids_mem hj) (hrest.2 id hi)
  |succ i=>
   cases j with
   |zero=>
    rw[ridAt_zero]at hj
    rw[ridAt_succ]at hi
    exact absurd (rids_mem hi) (hrest.2 id hj)
   |succ j=>
    rw[ridAt_succ]at hi hj
    rw[rids_inj hrest.1 hi hj]
def FinAt (st:St) (m:Rm) (r:ResM) (y:D) (fz:List Nat):Prop:=
 ∃ d,resVal st m r=some d∧
  match m with
  | .p k=>k.fits (frz (fun i=>st.os.getD i .dead) d).1=true∧y=(frz (fun i=>st.os.getD i .dead) d).1∧∀ x,x∈refsD d→x∈fz
  | .o e=>(∃ e1 id len nb els,d= .ownv e1 id 0 len∧st.os.getD id .dead= .arr e nb els∧y= .ov e nb (els.take len))∨
    (∃ e1 id n nb els,d= .own e1 id n∧st.os.getD id .dead= .arr e nb els∧y= .ov e nb els)∨∃ nb,d= .zs e nb∧y= .ov e nb []
theorem fin_spec {st:St}:∀ {rm:List Rm} {res:List ResM} {l:List D} {n fz:List Nat},finRes st rm res=some (l,n,fz)→l.length=rm.length∧res.length=rm.length∧n=rids st rm res∧
  ∀ (i:Nat) (m:Rm) (r:ResM),rm[i]? =some m→res[i]? =some r→FinAt st m r (l.getD i .undef) fz
 |[],[],l,n,fz,h=>by
  simp[finRes]at h
  obtain⟨rfl,rfl,rfl⟩:=h
  exact⟨rfl,rfl,rfl,fun i m r h=>by simp at h⟩
 |m::rm,r::res,l,n,fz,h=>by
  simp only[finRes]at h
  split at h
  ·rename_i d l' n' fz' hd hr
   obtain⟨h1,h2,h3,h4⟩:=fin_spec hr
   have wrap:∀ (y:D) (fz2:List Nat) (n2:List Nat),(∀ x,x∈fz'→x∈fz2)→FinAt st m r y fz2→n2=rids st (m::rm) (r::res)→l=y::l'→n=n2→fz=fz2→l.length=(m::rm).length∧(r::res).length=(m::rm).length∧n=rids st (m::rm) (r::res)∧
     ∀ (i:Nat) (m':Rm) (r':ResM),(m::rm)[i]? =some m'→(r::res)[i]? =some r'→FinAt st m' r' (l.getD i .undef) fz:=by
    rintro y fz2 n2 hsub hy hn2 rfl rfl rfl
    refine⟨by simp[h1],by simp[h2],hn2,fun i m' r' hm hr'=> ?_⟩
    cases i with
    |zero=>
     simp at hm hr'
     subst hm hr'
     exact hy
    |succ i=>
     obtain⟨d',g1,g2⟩:=h4 i m' r' (by simpa using hm) (by simpa using hr')
     refine⟨d',g1, ?_⟩
     rw[List.getD_cons_succ]
     cases m' with
     |p k=>exact⟨g2.1,g2.2.1,fun x hx=>hsub x (g2.2.2 x hx)⟩
     |o e=>exact g2
   cases m with
   |p k=>
    simp only at h
    split at h
    ·rename_i hf
     simp only[zq5,Prod.mk.injEq]at h
     obtain⟨e1,e2,e3⟩:=h
     exact wrap _ _ n' (fun x hx=>List.mem_append.2 (.inr hx)) ⟨d,hd,hf,rfl,fun x hx=>List.mem_append.2 (.inl hx)⟩ (by simp[rids,ridOf,h3]) e1.symm e2.symm e3.symm
    ·cases h
   |o e=>
    simp only at h
    have hrid:∀ {id:Nat},oid d=some id→id::n'=rids st (.o e::rm) (r::res):=fun ho=>by simp[rids,ridOf,hd,ho,h3]
    have hrid0:oid d=none→n'=rids st (.o e::rm) (r::res):=fun ho=>by simp[rids,ridOf,hd,ho,h3]
    split at h
    ·rename_i e1 id off len
     split at h
     ·rename_i e' nb els ho
      split at h
      ·rename_i hee
       subst hee
       simp only[zq5,Prod.mk.injEq]at h
       obtain⟨f1,f2,f3⟩:=h
       exact wrap _ fz' _ (fun x hx=>hx) ⟨_,hd,.inl ⟨e1,id,len,nb,els,rfl,ho,rfl⟩⟩ (hrid rfl) f1.symm f2.symm f3.symm
      ·cases h
     ·cases h
    ·split at h
     ·rename_i x ids ht
      simp only[zq5,Prod.mk.injEq]at h
      obtain⟨f1,f2,f3⟩:=h
      unfold takeOwn at ht
      split at ht
      ·rename_i e1 id nn hne
       split at ht
       ·rename_i e' nb els hV
        split at ht
        ·rename_i hee
         subst hee
         cases ht
         exact wrap _ fz' _ (fun x hx=>hx) ⟨_,hd,.inr (.inl ⟨e1,id,nn,nb,els,rfl,hV,rfl⟩)⟩ (hrid rfl) f1.symm f2.symm f3.symm
        ·cases ht
       ·cases ht
      ·rename_i e' nb hne
       split at ht
       ·rename_i hee
        subst hee
        cases ht
        exact wrap _ fz' _ (fun x hx=>hx) ⟨_,hd,.inr (.inr ⟨nb,rfl,rfl⟩)⟩ (hrid0 rfl) f1.symm f2.symm f3.symm
       ·cases ht
      ·cases ht
     ·cases h
  ·cases h
 |[],_::_,_,_,_,h=>by simp[finRes]at h
 |_::_,[],_,_,_,h=>by simp[finRes]at h
end
section
section
variable {C:Cx} {P:Program} {tm:Array Value} {st:St} {G:Gh} {w:World}
def resRun (tm:Array Value):ResultVar→Sem Value
 | .tmp t=>pure (tm.getD t undef)
 | .cell a t=>do loadVar t (←asAddr (tm.getD a undef))
theorem tmp_rep (h:Rel C tm st G w) (n:Nat):RepT C st.os G w (tm.getD n undef) (st.ts.getD n .undef):=by
 cases e:st.ts[n]? with
 |none=>rw[zq1,e];exact trivial
 |some d=>rw[zq1,e];exact h.ts n d e
theorem res_one (h:Rel C tm st G w) {rv:ResultVar} {r:ResM} {m:Rm} (hc:chkRes P [rv] [r] [m]=true) {d:D} (hd:resVal st m r=some d) (hf:∀ k,m= .p k→k.fits (frz (fun i=>st.os.getD i .dead) d).1=true):
  ∃ v,(resRun tm rv).run P w= .ok v w∧RepT C st.os G w v d:=by
 cases rv with
 |tmp t=>
  cases r with
  |t n=>
   simp[chkRes]at hc
   subst hc
   simp only[resVal,zq5]at hd
   subst hd
   exact⟨_,by simp[resRun],tmp_rep h t⟩
  |c n=>simp[chkRes]at hc
 |cell a t=>
  cases r with
  |t n=>simp[chkRes]at hc
  |c n=>
   cases m with
   |o e=>simp[chkRes]at hc
   |p k=>
    simp only[chkRes,zq3,beq_iff_eq,Bool.and_true]at hc
    obtain⟨⟨rfl,hs⟩,hk⟩:=hc
    have ht:=tmp_rep h a
    simp only[resVal]at hd
    split at hd
    ·rename_i k' id hp
     rw[hp]at ht
     split at hd
     ·rename_i cs hid
      have hid':st.os[id]? =some (.var cs):=by
       rw[zq1]at hid
       cases e:st.os[id]? with
       |none=>rw[e]at hid;cases hid
       |some y=>rw[e]at hid;simp at hid;rw[hid]
      obtain⟨ag,ks⟩:=k
      simp only at hk
      subst hk
      simp only[zq5]at hd
      subst hd
      obtain⟨g,cells,ct,g1,g2,g3,g4⟩:=h.os id _ hid'
      simp only[RepT,RepT1,RepT0,oAt_of hid',oSh]at ht
      obtain⟨_,g',q1,q2⟩:=ht
      rw[g1]at q1
      simp only[Value.pointer.injEq,zq5,Addr.mk.injEq,and_true]at q1
      subst q1
      have hfit:=hf _ rfl
      have hlen:cs.length=ks.length:=by
       simp only[frz,Vk.fits]at hfit
       have h1:=(fitsL_spec hfit).1
       have h2:∀ {V:Vw} (l:List D),(frzL V l).1.length=l.length:=by
        intro V l
        induction l with
        |nil=>rfl
        |cons x xs ih=>simp[frzL,ih]
       rw[h2]at h1
       exact h1
      have hl:=run_loadVar hs w ⟨g,0,none⟩ rfl (fun j=>cells.getD j undef) (fun j hj=>by
       rw[Nat.zero_add,cell_of_row w g j cells ct (0,0) g2]
       have hj':j<ks.length:=hj
       have:j<cells.size:=by omega
       simp[zq2,this])
      simp only at hl
      refine⟨_, ?_,⟨((List.range ks.length).map fun j=>cells.getD j undef).toArray,rfl,by simp[hlen],fun j hj=> ?_⟩⟩
      ·simp only[resRun,q2,Sem.run_bind]
       have:(asAddr (.pointer (some ⟨g,0,none⟩))).run P w= .ok ⟨g,0,none⟩ w:=by simp[asAddr]
       rw[this]
       simp only[Result.andThen_ok]
       exact hl
      ·have e1:((List.range ks.length).map fun j=>cells.getD j undef).toArray.getD j undef=cells.getD j undef:=by
        have:j<ks.length:=by omega
        simp[zq2,this]
       rw[e1]
       exact (g4 j hj).1
     ·cases hd
    ·cases hd
end
end
section
section
variable {C:Cx} {P:Program} {tm:Array Value} {st:St} {G:Gh} {w:World}
theorem chkRes_cons {rv:ResultVar} {rvs:List ResultVar} {r:ResM} {rs:List ResM} {m:Rm} {ms:List Rm} (h:chkRes P (rv::rvs) (r::rs) (m::ms)=true):chkRes P [rv] [r] [m]=true∧chkRes P rvs rs ms=true:=by
 cases rv<;>cases r<;>cases m<;>simp[chkRes]at h⊢ <;>simp_all
theorem resL_run (h:Rel C tm st G w):∀ (rvs:List ResultVar) (res:List ResM) (rm:List Rm),chkRes P rvs res rm=true→
  (∀ (i:Nat) (m:Rm) (r:ResM),rm[i]? =some m→res[i]? =some r→∃ d,resVal st m r=some d∧∀ k,m= .p k→k.fits (frz (fun i=>st.os.getD i .dead) d).1=true)→
  ∃ vl:List Value,(rvs.mapM (resRun tm)).run P w= .ok vl w∧vl.length=rm.length∧
   ∀ (i:Nat) (m:Rm) (r:ResM) (d:D),rm[i]? =some m→res[i]? =some r→resVal st m r=some d→RepT C st.os G w (vl.getD i undef) d
 |[],[],[],_,_=>⟨[],by simp,rfl,fun i m r d hm=>by simp at hm⟩
 |rv::rvs,r::rs,m::ms,hc,hd=>by
  obtain⟨c1,c2⟩:=chkRes_cons hc
  obtain⟨d,d1,d2⟩:=hd 0 m r rfl rfl
  obtain⟨v,v1,v2⟩:=res_one h c1 d1 d2
  obtain⟨vl,l1,l2,l3⟩:=resL_run h rvs rs ms c2 fun i m' r' hm hr=>hd (i+1) m' r' (by simpa using hm) (by simpa using hr)
  refine⟨v::vl,by simp[List.mapM_cons,v1,l1],by simp[l2],fun i m' r' d' hm hr hd'=> ?_⟩
  cases i with
  |zero=>
   simp at hm hr
   subst hm hr
   rw[d1]at hd'
   cases hd'
   exact v2
  |succ i=>exact l3 i m' r' d' (by simpa using hm) (by simpa using hr) hd'
 |[],_::_,_,hc,_=>by simp[chkRes]at hc
 |[],[],_::_,hc,_=>by simp[chkRes]at hc
 |_::_,[],_,hc,_=>by simp[chkRes]at hc
 |_::_,_::_,[],hc,_=>by rename_i rv _ r _;cases rv<;>cases r<;>simp[chkRes]at hc
theorem results_run {fn:Func} {vl:List Value} (h:(fn.results.toList.mapM (resRun tm)).run P w= .ok vl w):(results fn tm).run P w= .ok (retV vl) w:=by
 unfold results
 have e:(do
   let vs←Array.mapM (resRun tm) fn.results
   pure (if h:vs.size=1 then vs[0]else Value.tuple vs):Sem Value).run P w= .ok (retV vl) w:=by
  rw[Array.mapM_eq_mapM_toList]
  simp only[Sem.run_bind,Sem.run_map,h,Result.andThen_ok,Sem.run_pure]
  match vl with
  |[]=>rfl
  |[v]=>rfl
  |v1::v2::vr=>simp[retV]
 exact e
end
end
section
def resPs (st:St):List Rm→List ResM→List Value→List (D×Value)
 | .p k::ms,r::rs,v::vs=>((resVal st (.p k) r).getD .undef,v)::resPs st ms rs vs
 | .o _::ms,_::rs,_::vs=>resPs st ms rs vs
 |_,_,_=>[]
theorem resPs_of {st:St}:∀ {rm:List Rm} {res:List ResM} {vl:List Value} {p:D×Value},p∈resPs st rm res vl→∃ (i:Nat) (k:Vk) (r:ResM),rm[i]? =some (.p k)∧res[i]? =some r∧p=((resVal st (.p k) r).getD .undef,vl.getD i undef)
 |[],_,_,p,h=>by simp[resPs]at h
 | .p k::ms,r::rs,v::vs,p,h=>by
  simp only[resPs,List.mem_cons]at h
  rcases h with rfl |h
  ·exact⟨0,k,r,rfl,rfl,rfl⟩
  ·obtain⟨i,k',r',a,b,c⟩:=resPs_of h
   exact⟨i+1,k',r',by simpa using a,by simpa using b,by simpa using c⟩
 | .o e::ms,r::rs,v::vs,p,h=>by
  simp only[resPs]at h
  obtain⟨i,k',r',a,b,c⟩:=resPs_of h
  exact⟨i+1,k',r',by simpa using a,by simpa using b,by simpa using c⟩
 | .p k::ms,[],_,p,h=>by simp[resPs]at h
 | .p k::ms,_::_,[],p,h=>by simp[resPs]at h
 | .o k::ms,[],_,p,h=>by simp[resPs]at h
 | .o k::ms,_::_,[],p,h=>by simp[resPs]at h
theorem resPs_mem {st:St}:∀ {rm:List Rm} {res:List ResM} {vl:List Value} {i:Nat} {k:Vk} {r:ResM},res.length=rm.length→vl.length=rm.length→rm[i]? =some (.p k)→res[i]? =some r→((resVal st (.p k) r).getD .undef,vl.getD i undef)∈resPs st rm res vl
 |[],_,_,i,k,r,_,_,h,_=>by simp at h
 |m::ms,r0::rs,v::vs,i,k,r,h1,h2,hm,hr=>by
  cases i with
  |zero=>
   simp at hm hr
   subst hm hr
   simp[resPs]
  |succ i=>
   have:=resPs_mem (st:=st) (rm:=ms) (res:=rs) (vl:=vs) (i:=i) (by simpa using h1) (by simpa using h2) (by simpa using hm) (by simpa using hr)
   rw[List.getD_cons_succ]
   cases m with
   |p k'=>exact List.mem_cons_of_mem _ this
   |o e=>exact this
 |m::ms,[],_,i,k,r,h1,_,_,_=>by simp at h1
 |m::ms,_::_,[],i,k,r,_,h2,_,_=>by simp at h2
theorem finBack_spec {st:St}:∀ {am:List Am} {i0:Nat} {l:List D} {n:List Nat},finBack st i0 am=some (l,n)→n=lentIds i0 am∧
  ∀ {ty:TypeId→Option Vk} {w:World} {ok:Nat→Prop} {vs:Array Value} {blks:Nat→Option Nat},
   (∀ (j:Nat) (e:TypeId) (nb:Bool) (els:List D),am[j]? =some (.m e)→st.os.getD (i0+j) .dead= .arr e nb els→∃ k,ty e=some k∧RowR ty w ok k (vs.getD (i0+j) undef) (blks (i0+j)) els nb)→
   (∀ (j:Nat) (ks:List Sk) (cs:List D),am[j]? =some (.v ks)→st.os.getD (i0+j) .dead= .var cs→fitsL ks cs=true→VarR ty w ok ks (vs.getD (i0+j) undef) (blks (i0+j)) cs)→BackR ty w ok vs blks i0 am l
 |[],i0,l,n,h=>by
  simp[finBack]at h
  obtain⟨rfl,rfl⟩:=h
  exact⟨rfl,fun _ _=>rfl⟩
 |a::am,i0,l,n,h=>by
  cases a with
  |p=>
   simp only[finBack]at h
   obtain⟨h1,h2⟩:=finBack_spec h
   refine⟨h1,fun {ty w ok vs blks} hm hv=> ?_⟩
   simp only[BackR,lentA]
   refine h2 (fun j e nb els hj ho=> ?_) (fun j ks cs hj ho hf=> ?_)
   ·rw[show i0+1+j=i0+(j+1)by omega]at ho⊢
    exact hm (j+1) e nb els (by simpa using hj) ho
   ·rw[show i0+1+j=i0+(j+1)by omega]at ho⊢
    exact hv (j+1) ks cs (by simpa using hj) ho hf
  |g e0=>
   simp only[finBack]at h
   obtain⟨h1,h2⟩:=finBack_spec h
   refine⟨h1,fun {ty w ok vs blks} hm hv=> ?_⟩
   simp only[BackR,lentA]
   refine h2 (fun j e nb els hj ho=> ?_) (fun j ks cs hj ho hf=> ?_)
   ·rw[show i0+1+j=i0+(j+1)by omega]at ho⊢
    exact hm (j+1) e nb els (by simpa using hj) ho
   ·rw[show i0+1+j=i0+(j+1)by omega]at ho⊢
    exact hv (j+1) ks cs (by simpa using hj) ho hf
  |m e0=>
   simp only[finBack]at h
   split at h
   ·rename_i e' nb els l' n' ho0 hr
    split at h
    ·rename_i hee
     subst hee
     simp only[zq5,Prod.mk.injEq]at h
     obtain⟨rfl,rfl⟩:=h
     obtain⟨h1,h2⟩:=finBack_spec hr
     refine⟨by simp[lentIds,h1],fun {ty w ok vs blks} hm hv=> ?_⟩
     simp only[BackR,lentA]
     refine⟨?_,h2 (fun j e nb els hj ho=> ?_) (fun j ks cs hj ho hf=> ?_)⟩
     ·obtain⟨k,k1,k2⟩:=hm 0 e0 nb els rfl ho0
      exact⟨nb,els,k,rfl,k1,k2⟩
     ·rw[show i0+1+j=i0+(j+1)by omega]at ho⊢
      exact hm (j+1) e nb els (by simpa using hj) ho
     ·rw[show i0+1+j=i0+(j+1)by omega]at ho⊢
      exact hv (j+1) ks cs (by simpa using hj) ho hf
    ·cases h
   ·cases h
  |v ks0=>
   simp only[finBack]at h
   split at h
   ·rename_i cs l' n' ho0 hr
    split at h
    ·rename_i hf0
     simp only[zq5,Prod.mk.injEq]at h
     obtain⟨rfl,rfl⟩:=h
     obtain⟨h1,h2⟩:=finBack_spec hr
     refine⟨by simp[lentIds,h1],fun {ty w ok vs blks} hm hv=> ?_⟩
     simp only[BackR,lentA]
     refine⟨?_,h2 (fun j e nb els hj ho=> ?_) (fun j ks cs hj ho hf=> ?_)⟩
     ·exact⟨cs,rfl,hv 0 ks0 cs rfl ho0 hf0⟩
     ·rw[show i0+1+j=i0+(j+1)by omega]at ho⊢
      exact hm (j+1) e nb els (by simpa using hj) ho
     ·rw[show i0+1+j=i0+(j+1)by omega]at ho⊢
      exact hv (j+1) ks cs (by simpa using hj) ho hf
    ·cases h
   ·cases h
end
section
theorem finBack_live {st:St}:∀ {am:List Am} {i0:Nat} {l:List D} {n:List Nat},finBack st i0 am=some (l,n)→∀ (j:Nat) (a:Am),am[j]? =some a→lentA a=true→live (st.os.getD (i0+j) .dead)=true
 |[],i0,l,n,h,j,a,hj,_=>by simp at hj
 |b::am,i0,l,n,h,j,a,hj,hl=>by
  have step:∀ {l' n'},finBack st (i0+1) am=some (l',n')→(lentA b=true→live (st.os.getD i0 .dead)=true)→live (st.os.getD (i0+j) .dead)=true:=by
   intro l' n' hr hb
   cases j with
   |zero=>simp at hj;subst hj;exact hb hl
   |succ j=>
    have:=finBack_live hr j a (by simpa using hj) hl
    rwa [show i0+1+j=i0+(j+1)by omega]at this
  cases b with
  |p=>simp only[finBack]at h;exact step h (fun hb=>by cases hb)
  |g e=>simp only[finBack]at h;exact step h (fun hb=>by cases hb)
  |m e=>
   simp only[finBack]at h
   split at h
   ·rename_i e' nb els l' n' ho hr
    exact step hr (fun _=>by rw[ho];rfl)
   ·cases h
  |v ks=>
   simp only[finBack]at h
   split at h
   ·rename_i cs l' n' ho hr
    exact step hr (fun _=>by rw[ho];rfl)
   ·cases h
section
variable {P:Program} {tm:Array Value} {st:St} {G:Gh} {w w':World}
theorem own_res {C:Cx} {osf:List Obj} (hz:Rel C tm ⟨st.ts,osf⟩ G w') {v:Value} {id len:Nat} {e e1:TypeId} {nb:Bool} {els:List D} (hid:st.os[id]? =some (.arr e nb els)) (hidf:osf[id]? =some (.arr e nb els))
  (hv:RepT C st.os G w' v (.ownv e1 id 0 len)):∃ blk k,C.ty e=some k∧RowR C.ty w' (okB C osf G w') k v blk (els.take len) nb∧∀ b,blk=some b→(G id).2=some b:=by
 simp only[RepT,RepT1,RepT0,oAt_of hid,oSh]at hv
 obtain⟨hlv,rfl,hle,a,c,k,hk,hG1,a',rfl,hn,hsp,hadr⟩:=hv
 simp only[Nat.zero_add]at hle
 have hlen:(els.take len).length=len:=by simp;omega
 refine⟨if c=0 then none else (G id).2,k,hk, ?_,fun b hb=>by split at hb;· cases hb
                                                             ·exact hb⟩
 have nil:c=0→len=0→nb=a'.isNone→RowR C.ty w' (okB C osf G w') k (.slice a' len (c - 0)) none (els.take len) nb:=by
  rintro rfl rfl hnb
  exact⟨[],⟨by simp,.inl ⟨rfl,by simp,a',rfl,hnb,hsp⟩⟩,(fun d hd=>by simp at hd),(fun i j hi=>by simp at hi)⟩
 rcases row_at (hz.os id _ hidf) hk with⟨h0,a0,_,g1,g3,_⟩ |⟨g,cap,cur,t,hr⟩
 ·rw[hG1]at g1
  simp only[Value.slice.injEq]at g1
  obtain⟨rfl,_,rfl⟩:=g1
  rw[if_pos rfl]
  exact nil rfl (by omega) (by rw[g3,hn])
 ·have g1:=hr.g1
  rw[hG1]at g1
  simp only[Value.slice.injEq,true_and]at g1
  obtain⟨rfl,rfl⟩:=g1
  have hnc:=hr.nc
  by_cases hc:c=0
  ·rw[if_pos hc]
   exact nil hc (by omega) (by rw[hr.nb,hn];rfl)
  ·rw[if_neg hc]
   have:=hadr (by omega)
   simp only[Option.map_some,Nat.zero_mul,Nat.add_zero]at this
   subst this
   refine⟨cur.toList.take (len*k.ks.length),⟨?_,.inr ⟨hr.nb,g,c,cur,t,hr.g2,by rw[hlen,Nat.sub_zero],hr.hh,by omega,hr.cm,hr.cs,by rw[hlen]⟩⟩,fun d hd=>hr.fit d (List.mem_of_mem_take hd),fun i j hi hj=> ?_⟩
   ·have h1:len*k.ks.length≤c*k.ks.length:=Nat.mul_le_mul_right _ (by omega)
    have h2:=hr.cs
    rw[hlen]
    simp
    omega
   ·rw[hlen]at hi
    have e1:(cur.toList.take (len*k.ks.length)).getD (i*k.ks.length+j) undef=cur.getD (i*k.ks.length+j) undef:=by
     simp[zq1,zq2,List.getElem?_take,idx_lt hi hj (Nat.le_refl _)]
    have e2:(els.take len).getD i .undef=els.getD i .undef:=by simp[zq1,List.getElem?_take,hi]
    rw[e1,e2]
    exact hr.rep i j (by omega) hj
end
end
section
section
variable {P:Program} {tm:Array Value} {st:St} {G:Gh} {w w':World}
theorem finish_ok {ty:TypeId→Option Vk} {am:List Am} {rm:List Rm} {res:List ResM} {l0 l l':List D} {n n' fz:List Nat} {vs:Array Value} {blks:Nat→Option Nat} {X:Nat→Prop} {vl:List Value}
  (h:Rel ⟨ty,X,w,fun b=>∃ i,blks i=some b,(0,undef)⟩ tm st G w') (pre:Pre ty am l0 w vs blks X) (hkeep:∀ i,i∈lentIds 0 am→G i=(vs.getD i undef,blks i))
  (hfr:finRes st rm res=some (l,n,fz)) (hfb:finBack st 0 am=some (l',n')) (hnd:(nodupB (n++n')&&apart fz (n++n'))=true) (hty:∀ (i:Nat) (e:TypeId),rm[i]? =some (.o e)→(ty e).isSome=true)
  (hvl:vl.length=rm.length) (hrep:∀ (i:Nat) (m:Rm) (r:ResM) (d:D),rm[i]? =some m→res[i]? =some r→resVal st m r=some d→RepT ⟨ty,X,w,fun b=>∃ i,blks i=some b,(0,undef)⟩ st.os G w' (vl.getD i undef) d):
  ∃ rb,Post ty am rm (l++l') w vs blks X w' vl rb:=by
 classical
 generalize hC:(⟨ty,X,w,fun b=>∃ i,blks i=some b,(0,undef)⟩:Cx)=C at h hrep
 have hCt:C.ty=ty:=by rw[←hC]
 have hCX:C.X=X:=by rw[←hC]
 obtain⟨f1,f2,f3,f4⟩:=fin_spec hfr
 obtain⟨b1,b2⟩:=finBack_spec hfb
 simp only[zq3]at hnd
 obtain⟨hnd,hap⟩:=hnd
 have hnod:=nodupB_nodup hnd
 rw[f3,b1]at hnod
 obtain⟨nd1,nd2,nd3⟩:=List.nodup_append.1 hnod
 generalize hVd:(fun i=>st.os.getD i Obj.dead:Vw)=V at f4
 have hget:∀ id o,st.os.getD id Obj.dead=o→o≠ .dead→st.os[id]? =some o:=by
  intro id o ho hne
  rw[zq1]at ho
  cases e:st.os[id]? with
  |none=>rw[e]at ho;exact absurd ho.symm hne
  |some y=>rw[e]at ho;simp at ho;rw[ho]
 have hV:∀ id o,(fun i=>st.os.getD i Obj.dead:Vw) id=o→o≠ .dead→st.os[id]? =some o:=hget
 have rAt:∀ {i:Nat} {m:Rm},rm[i]? =some m→∃ r,res[i]? =some r:=by
  intro i m hm
  have:=(zq6.1 hm).1
  exact⟨_,zq4 (show i<res.length by omega)⟩
 have pOk:∀ p,p∈resPs st rm res vl→RepT C st.os G w' p.2 p.1∧pureD (frz (fun i=>st.os.getD i Obj.dead) p.1).1=true∧∀ x,x∈refsD p.1→x∈fz:=by
  intro p hp
  obtain⟨i,k,r,hm,hr,rfl⟩:=resPs_of hp
  obtain⟨d,d1,d2,d3,d4⟩:=f4 i _ r hm hr
  simp only[d1,Option.getD_some]
  exact⟨hrep i _ r d hm hr d1,fits_rp d2,d4⟩
 obtain⟨hz,hrz⟩:=frzAll_ok hV ((resPs st rm res vl).map (·.1)) st.os h (.refl st.os) (fun j=>((resPs st rm res vl).getD j (.undef,undef)).2) (fun j hj=>by
  have hj':j<(resPs st rm res vl).length:=by simpa using hj
  have:=(pOk _ (List.getElem_mem hj')).1
  simpa[zq1,hj']using this) (by
  rw[List.all_eq_true]
  intro d hd
  obtain⟨p,hp,rfl⟩:=List.mem_map.1 hd
  exact (pOk p hp).2.1)
 have unfz:∀ id,id∈n++n'→(wrL st.os (((resPs st rm res vl).map (·.1)).map fun d=>(frz (fun i=>st.os.getD i Obj.dead) d).2).flatten)[id]? =st.os[id]? :=by
  intro id hid
  refine wrL_not _ _ fun q hq he=> ?_
  obtain⟨ws,hws,hq2⟩:=List.mem_flatten.1 hq
  obtain⟨d,hd,rfl⟩:=List.mem_map.1 hws
  obtain⟨p,hpp,rfl⟩:=List.mem_map.1 hd
  exact apart_ne hap ((pOk p hpp).2.2 _ (frz_keys hq2)) (he▸hid)
 generalize hosf:wrL st.os (((resPs st rm res vl).map (·.1)).map fun d=>(frz (fun i=>st.os.getD i Obj.dead) d).2).flatten=osf at unfz hrz
 have hzr:Rel C tm ⟨st.ts,osf⟩ G w':=by rw[←hosf];exact hz.rel
 have pRep:∀ p,p∈resPs st rm res vl→RepV C.ty w' (okB C osf G w') p.2 (frz (fun i=>st.os.getD i Obj.dead) p.1).1:=by
  intro p hp
  obtain⟨j,hj,rfl⟩:=List.getElem_of_mem hp
  have:=hrz j (by simpa using hj)
  simpa[zq1,hj]using this
 have resO:∀ (i:Nat) (e:TypeId),rm[i]? =some (.o e)→∃ blk nb els k,l.getD i .undef= .ov e nb els∧ty e=some k∧RowR ty w' (okB C osf G w') k (vl.getD i undef) blk els nb∧
   ∀ b,blk=some b→∃ id o,ridAt st rm res i=some id∧(G id).2=some b∧osf[id]? =some o∧live o=true:=by
  intro i e hm
  obtain⟨r,hr⟩:=rAt hm
  obtain⟨d,d1,d2⟩:=f4 i _ r hm hr
  have hrid:ridAt st rm res i=oid d:=by simp[ridAt,hm,hr,ridOf,d1]
  have hR:=hrep i _ r d hm hr d1
  have uid:∀ {id:Nat},oid d=some id→osf[id]? =st.os[id]? :=fun ho=>unfz _ (by rw[f3];exact List.mem_append.2 (.inl (rids_mem (by rw[hrid];exact ho))))
  rcases d2 with⟨e1,id,len,nb,els,rfl,ho,hy⟩ |⟨e1,id,nn,nb,els,rfl,ho,hy⟩ |⟨nb,rfl,hy⟩
  ·have hid:=hget id _ ho (by simp)
   have hidf:=(uid rfl).trans hid
   obtain⟨blk,k,k1,k2,k3⟩:=own_res hzr hid hidf hR
   rw[hCt]at k1 k2
   exact⟨blk,nb,_,k,hy,k1,k2,fun b hb=>⟨id,_,hrid,k3 b hb,hidf,rfl⟩⟩
  ·have hid:=hget id _ ho (by simp)
   have hidf:=(uid rfl).trans hid
   obtain⟨k,k1,k2⟩:=objRel_row.1 (hzr.os id _ hidf)
   simp only[RepT,RepT1,RepT0,oAt_of hid,oSh]at hR
   rw[hCt]at k1 k2
   rw[←hR.2.2.2]at k2
   exact⟨_,nb,els,k,hy,k1,k2,fun b hb=>⟨id,_,hrid,hb,hidf,rfl⟩⟩
  ·obtain⟨k,hk⟩:=Option.isSome_iff_exists.1 (hty i e hm)
   simp only[RepT,RepT1,RepT0]at hR
   have:∃ aa:Option Addr,vl.getD i undef= .slice aa 0 0∧nb=aa.isNone∧∀ y,aa=some y→(0:Nat)≠0→y.spot=none:=by
    generalize vl.getD i undef=u at hR
    cases hR with
    |zsnil=>exact⟨none,rfl,rfl,fun y hy=>by cases hy⟩
    |zs e ad k hk hsp=>exact⟨some ad,rfl,rfl,fun y hy=>by cases hy;exact hsp⟩
   obtain⟨aa,g1,g2,g3⟩:=this
   exact⟨none,nb,[],k,hy,hk,⟨[],⟨by simp,.inl ⟨rfl,rfl,aa,g1,g2,g3⟩⟩,(fun d hd=>by cases hd),(fun i j hi=>by simp at hi)⟩,fun b hb=>by cases hb⟩
 let rb:Nat→Option Nat:=fun i=>if hx:∃ e,rm[i]? =some (.o e)then (resO i hx.choose hx.choose_spec).choose else none
 have rbO:∀ (i:Nat) (e:TypeId),rm[i]? =some (.o e)→∃ nb els k,l.getD i .undef= .ov e nb els∧ty e=some k∧RowR ty w' (okB C osf G w') k (vl.getD i undef) (rb i) els nb∧
   ∀ b,rb i=some b→∃ id o,ridAt st rm res i=some id∧(G id).2=some b∧osf[id]? =some o∧live o=true:=by
  intro i e hm
  have hx:∃ e,rm[i]? =some (.o e):=⟨e,hm⟩
  have he:hx.choose=e:=by
   have h2:some (Rm.o e)=some (.o hx.choose):=hm.symm.trans hx.choose_spec
   simpa using h2.symm
  have hrb:rb i=(resO i hx.choose hx.choose_spec).choose:=by simp only[rb,dif_pos hx]
  have h3:=(resO i hx.choose hx.choose_spec).choose_spec
  rw[←hrb]at h3
  generalize hx.choose=e' at he h3
  subst he
  exact h3
 have rbNo:∀ (i:Nat) (k:Vk),rm[i]? =some (.p k)→rb i=none:=by
  intro i k hm
  have hx: ¬∃ e,rm[i]? =some (.o e):=by rintro⟨e,he⟩;rw[hm]at he;cases he
  simp only[rb,dif_neg hx]
 have rbSome:∀ (i b:Nat),rb i=some b→i<rm.length∧∃ id o,ridAt st rm res i=some id∧(G id).2=some b∧osf[id]? =some o∧live o=true:=by
  intro i b hb
  by_cases hx:∃ e,rm[i]? =some (.o e)
  ·obtain⟨e,he⟩:=hx
   obtain⟨nb,els,k,_,_,_,h4⟩:=rbO i e he
   exact⟨(zq6.1 he).1,h4 b hb⟩
  ·simp only[rb,dif_neg hx]at hb
   cases hb
 have lentLive:∀ (j:Nat) (a:Am),am[j]? =some a→lentA a=true→j∈lentIds 0 am∧G j=(vs.getD j undef,blks j)∧osf[j]? =st.os[j]? ∧∃ o,osf[j]? =some o∧live o=true:=by
  intro j a hj hl
  have hm:=lent_mem (k:=0) hj hl
  rw[Nat.zero_add]at hm
  have hlv:=finBack_live hfb j a hj hl
  rw[Nat.zero_add]at hlv
  have hu:=unfz j (by rw[b1];exact List.mem_append.2 (.inr hm))
  refine⟨hm,hkeep j hm,hu,_,hu.trans (hget j _ rfl ?_),hlv⟩
  intro e
  rw[e]at hlv
  cases hlv
 have okUp:∀ b,okB C osf G w' b→okR am blks X w' rb b:=by
  rintro b ⟨o1,o2,o3⟩
  refine⟨o1,by rw[←hCX];exact o3,fun j hj=> ?_,fun j a hj hl hb=> ?_⟩
  ·obtain⟨_,id,o,_,g2,g3,g4⟩:=rbSome j b hj
   exact o2 ⟨id,o,g3,g4,g2⟩
  ·obtain⟨_,g1,_,o,g3,g4⟩:=lentLive j a hj hl
   exact o2 ⟨j,o,g3,g4,by rw[g1];exact hb⟩
 have lget:∀ {i:Nat},i<rm.length→(l++l').getD i .undef=l.getD i .undef:=fun hi=>by
  rw[zq1,List.getElem?_append_left (by omega),zq1]
 refine⟨rb,hvl,by rw[List.length_append];omega,fun i m hm=> ?_, ?_,fun i b hb=> ?_,fun i j b hi hj=> ?_, ?_, ?_, ?_, ?_,fun b hb hno=> ?_⟩
 ·have hi:=(zq6.1 hm).1
  rw[lget hi]
  cases m with
  |p k=>
   obtain⟨r,hr⟩:=rAt hm
   obtain⟨d,d1,d2,d3,d4⟩:=f4 i _ r hm hr
   refine⟨rbNo i k hm,by rw[d3];exact d2, ?_⟩
   have:=pRep _ (resPs_mem f2 hvl hm hr)
   simp only[d1,Option.getD_some]at this
   rw[d3,←hCt]
   exact this.mono okUp (fun _ _=>rfl)
  |o e=>
   obtain⟨nb,els,k,k1,k2,k3,_⟩:=rbO i e hm
   exact⟨nb,els,k,k1,k2,k3.mono okUp⟩
 ·have hdrop:(l++l').drop rm.length=l':=by rw[←f1];exact List.drop_left
  rw[hdrop]
  refine b2 (fun j e nb els hj ho=> ?_) (fun j ks cs hj ho hf=> ?_)
  ·rw[Nat.zero_add]at ho⊢
   obtain⟨_,g1,g2,_⟩:=lentLive j _ hj rfl
   obtain⟨k,k1,k2⟩:=objRel_row.1 (hzr.os j _ (g2.trans (hget j _ ho (by simp))))
   rw[g1,hCt]at k2
   rw[hCt]at k1
   exact⟨k,k1,k2.mono okUp⟩
  ·rw[Nat.zero_add]at ho⊢
   obtain⟨_,g1,g2,_⟩:=lentLive j _ hj rfl
   obtain⟨g,cells,t,v1,v2,v3,v4⟩:=hzr.os j _ (g2.trans (hget j _ ho (by simp)))
   rw[g1]at v1
   simp only[Prod.mk.injEq]at v1
   refine⟨hf,g,cells,t,v1.1,v1.2,v2,v3,fun q hq=> ?_⟩
   obtain⟨s,_,hs⟩:=fitsL_get hf hq
   have:=(v4 q hq).1.toV (fits_pure hs)
   rw[hCt]at this
   exact this.mono okUp (fun _ _=>rfl)
 ·obtain⟨hi,id,o,g1,g2,g3,g4⟩:=rbSome i b hb
  obtain⟨x1,x2,x3⟩:=hzr.inX b ⟨id,o,g3,g4,g2⟩
  rw[hCX]at x1
  refine⟨hi,x2,x1, ?_⟩
  rcases Nat.lt_or_ge b w.heap.size with hlt |hge
  ·right
   have hM:∃ j,blks j=some b:=by
    have:=x3 (by rw[←hC];exact hlt)
    rw[←hC]at this
    exact this
   obtain⟨j,hj⟩:=hM
   obtain⟨p1,p2,p3⟩:=pre.blk j b hj
   have ha:=zq4 p1
   have harg:=pre.args j _ ha
   generalize am[j]=a at ha harg
   have lentNo:lentA a=true→False:=by
    intro hl
    obtain⟨q1,q2,_,o2,q3,q4⟩:=lentLive j a ha hl
    have:=hzr.inj id j o o2 b g3 q3 g4 q4 g2 (by rw[q2];exact hj)
    subst this
    exact nd3 id (rids_mem g1) id q1 rfl
   cases a with
   |p=>rw[harg.2.1]at hj;cases hj
   |g e=>exact⟨j,e,ha,hj⟩
   |m e=>exact (lentNo rfl).elim
   |v ks=>exact (lentNo rfl).elim
  ·exact .inl hge
 ·obtain⟨_,id,o,g1,g2,g3,g4⟩:=rbSome i b hi
  obtain⟨_,id',o',q1,q2,q3,q4⟩:=rbSome j b hj
  have:=hzr.inj id id' o o' b g3 q3 g4 q4 g2 q2
  subst this
  exact rids_inj nd1 g1 q1
 ·have:=hzr.tape;rw[←hC]at this;exact this
 ·have:=hzr.osw;rw[←hC]at this;exact this
 ·have:=hzr.out;rw[←hC]at this;exact this
 ·have:=hzr.size;rw[←hC]at this;exact this
 ·have:=hzr.frame b
  rw[←hC]at this
  exact this hb fun ⟨j,hj⟩=>hno j hj
end
end
section
theorem fun_ok {P:Program} {E:Env} (hK:Ok P E) (hyn:E.yld=none) {g:FuncId} {f:DFun} (hc:chkFun P E.ty g f=true) (k:Nat):SoundAt P E.ty g ⟨f.am,f.rm⟩ (dbody f E k):=by
 intro l rs hrs w vs blks X pre
 unfold chkFun at hc
 split at hc
 ·rename_i fn hf
  split at hc
  ·rename_i c hb
   simp only[zq3,beq_iff_eq,Nat.ble_eq]at hc
   obtain⟨⟨⟨⟨⟨⟨c1,c2⟩,c3⟩,c4⟩,c5⟩,c6⟩,c7⟩:=hc
   unfold dbody at hrs
   split at hrs
   ·rename_i st he
    unfold enter at he
    split at he
    ·rename_i dl ws hen
     simp only[zq5]at he
     obtain⟨rel,halive⟩:=entry_rel (nt:=f.nt) pre hen c3
     have hN:st.os.length=f.nobj:=by rw[←he];show (wrL _ _).length=_;rw[wrL_len,List.length_replicate]
     rw[he]at rel
     have hal:∀ i,i∈lentIds 0 f.am→isDead (st.os.getD i .gone)=false:=by rw[←he];exact halive
     refine calls_of_wp hf hb (wp_mono ((wpIn_wide (n:=0)).1 (code_ok (ro:=none) hK c f.body (lentIds 0 f.am) c7 (C:=⟨E.ty,X,w,fun b=>∃ i,blks i=some b,(0,undef)⟩) (fun e f hf=>by rw[hyn]at hf;cases hf) rfl k st _ rs
      {tmps:=vs++Array.replicate (fn.ntmps - vs.size) undef,defers:=[]} w (fun i=>(vs.getD i undef,blks i)) hrs (by rw[c2];exact rel) hN hal)) fun e a' w' ho=> ?_)
     obtain⟨ex,st',G',o1⟩:=ho
     have fin:∀ (hk:finish f st'=some rs),a'.defers=[]∧∃ v,(results fn a'.tmps).run P w'= .ok v w'∧∃ rv rb,v=retV rv∧Post E.ty f.am f.rm rs w vs blks X w' rv rb:=by
      intro hk
      unfold finish at hk
      split at hk
      ·rename_i l1 n1 fz l2 n2 hfr hfb
       split at hk
       ·rename_i hnd
        cases hk
        obtain⟨s1,s2,s3,s4⟩:=fin_spec hfr
        obtain⟨vl,v1,v2,v3⟩:=resL_run o1.rel fn.results.toList f.res f.rm c6 fun i m r hm hr=>by
         obtain⟨d,d1,d2⟩:=s4 i m r hm hr
         refine⟨d,d1,fun k hk=> ?_⟩
         subst hk
         exact d2.1
        obtain⟨rb,post⟩:=finish_ok o1.rel pre (fun i hi=>(o1.keep i hi).1) hfr hfb hnd (fun i e hi=>by
         have:=all_get c5 hi
         exact this) v2 v3
        exact⟨o1.df,_,results_run v1,vl,rb,rfl,post⟩
       ·cases hk
      ·cases hk
     have hk:=o1.k
     have hex:=o1.ex
     cases ex with
     |norm=>
      cases e<;>first |exact hex.elim |exact fin hk
     |ret=>
      cases e<;>first |exact hex.elim |exact fin hk
     |exit id=>cases hk
    ·cases he
   ·cases hrs
  ·cases hc
 ·cases hc
end
section
def ghW (slv:Value) (O A:Nat) (blk:Option Nat):Gh:=fun i=>if i=1 then (.pointer (some ⟨O,0,none⟩),some O)else if i=2 then (.pointer (some ⟨A,0,none⟩),some A)else if i=3 then (slv,blk)else (undef,none)
theorem entryW {ty:TypeId→Option Vk} {g:FuncId} {e:TypeId} {x:D} {nb:Bool} {els:List D} {w:World} {v slv:Value} {O A:Nat} {blk:Option Nat} {k:Vk} {X:Nat→Prop} {nobj nt:Nat}
  (pre:PreW ty g e x nb els w v slv O A blk k X) (hn:4≤nobj):
  Rel ⟨ty,X,w,fun b=>b=O∨b=A∨blk=some b,(0,undef)⟩ (#[v,.pointer (some ⟨O,0,none⟩),.pointer (some ⟨A,0,none⟩)]++Array.replicate (nt - 3) undef)
   ⟨x:: .ptr 1 0:: .ptr 2 0::List.replicate (nt - 3) (.tup []),wrL (List.replicate nobj .dead) [(1,.var [.own e 3 els.length]),(2,.var [.fnr g [1,2]]),(3,.arr e nb els)]⟩ (ghW slv O A blk) w:=by
 generalize hos:wrL (List.replicate nobj Obj.dead) [(1,.var [.own e 3 els.length]),(2,.var [.fnr g [1,2]]),(3,.arr e nb els)]=os
 have o1:os[1]? =some (.var [.own e 3 els.length]):=by rw[←hos];simp only[wrL];rw[List.getElem?_set_ne (by omega),List.getElem?_set_ne (by omega),List.getElem?_set_self (by simp;omega)]
 have o2:os[2]? =some (.var [.fnr g [1,2]]):=by rw[←hos];simp only[wrL];rw[List.getElem?_set_ne (by omega),List.getElem?_set_self (by simp;omega)]
 have o3:os[3]? =some (.arr e nb els):=by rw[←hos];simp only[wrL];rw[List.getElem?_set_self (by simp;omega)]
 have oo:∀ i o,os[i]? =some o→i≠1→i≠2→i≠3→o= .dead:=by
  intro i o h h1 h2 h3
  rw[←hos]at h
  simp only[wrL]at h
  rw[List.getElem?_set_ne (fun e=>h3 e.symm),List.getElem?_set_ne (fun e=>h2 e.symm),List.getElem?_set_ne (fun e=>h1 e.symm),List.getElem?_replicate]at h
  split at h
  ·cases h;rfl
  ·cases h
 have getO:∀ i o,os[i]? =some o→(i=1∧o= .var [.own e 3 els.length])∨(i=2∧o= .var [.fnr g [1,2]])∨(i=3∧o= .arr e nb els)∨o= .dead:=by
  intro i o h
  by_cases h1:i=1
  ·subst h1;rw[o1]at h;cases h;exact .inl ⟨rfl,rfl⟩
  by_cases h2:i=2
  ·subst h2;rw[o2]at h;cases h;exact .inr (.inl ⟨rfl,rfl⟩)
  by_cases h3:i=3
  ·subst h3;rw[o3]at h;cases h;exact .inr (.inr (.inl ⟨rfl,rfl⟩))
  ·exact .inr (.inr (.inr (oo i o h h1 h2 h3)))
 generalize hG:ghW slv O A blk=G
 have g1:G 1=(.pointer (some ⟨O,0,none⟩),some O):=by rw[←hG];rfl
 have g2:G 2=(.pointer (some ⟨A,0,none⟩),some A):=by rw[←hG];rfl
 have g3:G 3=(slv,blk):=by rw[←hG];rfl
 generalize hC:(⟨ty,X,w,fun b=>b=O∨b=A∨blk=some b,(0,undef)⟩:Cx)=C
 have hCt:C.ty=ty:=by rw[←hC]
 have hCX:C.X=X:=by rw[←hC]
 have lb:∀ b,LB os G b→b=O∨b=A∨blk=some b:=by
  rintro b ⟨i,o,hi,hl,hb⟩
  rcases getO i o hi with⟨rfl,_⟩ |⟨rfl,_⟩ |⟨rfl,_⟩ |rfl
  ·rw[g1]at hb;cases hb;exact .inl rfl
  ·rw[g2]at hb;cases hb;exact .inr (.inl rfl)
  ·rw[g3]at hb;exact .inr (.inr hb)
  ·cases hl
 have hok:∀ b,(b<w.heap.size∧ ¬X b∧b≠O∧b≠A∧blk≠some b)→okB C os G w b:=by
  rintro b ⟨p1,p2,p3,p4,p5⟩
  refine⟨p1,fun hl=> ?_,by rw[hCX];exact p2⟩
  rcases lb b hl with h |h |h
  ·exact p3 h
  ·exact p4 h
  ·exact p5 h
 obtain⟨tO,pO⟩:=pre.ho
 obtain⟨tA,pA⟩:=pre.ha
 have ltO:O<w.heap.size:=(Array.getElem?_eq_some_iff.1 pO).1
 have ltA:A<w.heap.size:=(Array.getElem?_eq_some_iff.1 pA).1
 have rx:RepV C.ty w (okB C os G w) v x:=by rw[hCt];exact pre.rx.mono hok (fun _ _=>rfl)
 have hrow:RowR C.ty w (okB C os G w) k slv blk els nb:=by rw[hCt];exact pre.row.mono hok
 have d1:isDead (os.getD 1 .gone)=false:=by rw[zq1,o1];rfl
 have d2:isDead (os.getD 2 .gone)=false:=by rw[zq1,o2];rfl
 have d3:isDead (os.getD 3 .gone)=false:=by rw[zq1,o3];rfl
 have a1:oAt os 1= .var 1:=by rw[oAt_of o1];rfl
 have a2:oAt os 2= .var 1:=by rw[oAt_of o2];rfl
 have a3:oAt os 3= .row e els.length:=by rw[oAt_of o3];rfl
 have tA':∀ (tm:Array Value) (j:Nat) (d:D),tm= #[v,.pointer (some ⟨O,0,none⟩),.pointer (some ⟨A,0,none⟩)]++Array.replicate (nt - 3) undef→(x:: .ptr 1 0:: .ptr 2 0::List.replicate (nt - 3) (D.tup []))[j]? =some d→
   RepT C os G w (tm.getD j undef) d∧∀ id,id∈refsD d→isDead (os.getD id .gone)=false:=by
  intro tm j d htm hj
  match j with
  |0=>
   simp at hj;subst hj
   have:tm.getD 0 undef=v:=by rw[htm];simp[zq2,Array.getElem?_append]
   rw[this]
   exact⟨pureD_rep rx pre.px,fun id hid=>by rw[repV_refs rx]at hid;cases hid⟩
  |1=>
   simp at hj;subst hj
   have:tm.getD 1 undef= .pointer (some ⟨O,0,none⟩):=by rw[htm];simp[zq2,Array.getElem?_append]
   rw[this]
   refine⟨⟨⟨_,rfl,rfl⟩, ?_⟩,fun id hid=> ?_⟩
   ·rw[a1];exact⟨O,by rw[g1],rfl⟩
   ·have:id=1:=by simpa[refsD,refs1,refs0]using hid
    subst this;exact d1
  |2=>
   simp at hj;subst hj
   have:tm.getD 2 undef= .pointer (some ⟨A,0,none⟩):=by rw[htm];simp[zq2,Array.getElem?_append]
   rw[this]
   refine⟨⟨⟨_,rfl,rfl⟩, ?_⟩,fun id hid=> ?_⟩
   ·rw[a2];exact⟨A,by rw[g2],rfl⟩
   ·have:id=2:=by simpa[refsD,refs1,refs0]using hid
    subst this;exact d2
  |j+3=>
   simp only[List.getElem?_cons_succ,List.getElem?_replicate]at hj
   split at hj
   ·cases hj
    have:tm.getD (j+3) undef=undef:=by
     rw[htm,zq2,Array.getElem?_append,if_neg (by simp)]
     simp only[Array.getElem?_replicate]
     split<;>rfl
    rw[this]
    exact⟨⟨#[],rfl,rfl,fun j hj=>by simp at hj⟩,fun id hid=>by simp[refsD]at hid⟩
   ·cases hj
 have oOk:∀ (i:Nat) (o:Obj),os[i]? =some o→ObjRel C os G w i o∧∀ id,id∈refsO o→isDead (os.getD id .gone)=false:=by
  intro i o ho
  rcases getO i o ho with⟨rfl,rfl⟩ |⟨rfl,rfl⟩ |⟨rfl,rfl⟩ |rfl
  ·refine⟨⟨O, #[slv],tO,g1,pO,rfl,fun j hj=> ?_⟩,fun id hid=> ?_⟩
   ·obtain rfl:j=0:=by simpa using hj
    refine⟨?_,rfl⟩
    exact own_rept (C:=C) (G:=G) (w:=w) (rowR_len hrow) a3 (by rw[g3];rfl)
   ·have:id=3:=by simpa[refsO,refsL,refs0,refsb]using hid
    subst this;exact d3
  ·refine⟨⟨A, #[cloV g O A],tA,g2,pA,rfl,fun j hj=> ?_⟩,fun id hid=> ?_⟩
   ·obtain rfl:j=0:=by simpa using hj
    refine⟨⟨_,rfl,rfl,fun q hq=> ?_⟩,rfl⟩
    have:q=0∨q=1:=by simp at hq;omega
    rcases this with rfl |rfl
    ·simp only[List.getD_cons_zero]
     rw[a1,g1];rfl
    ·simp only[List.getD_cons_succ,List.getD_cons_zero]
     rw[a2,g2];rfl
   ·have:id=1∨id=2:=by simpa[refsO,refsL,refs0]using hid
    rcases this with rfl |rfl
    ·exact d1
    ·exact d2
  ·exact⟨objRel_row.2 ⟨k,by rw[hCt];exact pre.hk,by rw[g3];exact hrow⟩,fun id hid=>by simp[refsO]at hid⟩
  ·exact⟨trivial,fun id hid=>by simp[refsO]at hid⟩
 subst hC
 exact {
  tsz:=by simp;omega
  ts:=fun j d hj=>(tA' _ j d rfl hj).1
  os:=fun i o ho=>(oOk i o ho).1
  inj:=fun i j oi oj b hi hj hli hlj hbi hbj=>by
   rcases getO i oi hi with⟨rfl,_⟩ |⟨rfl,_⟩ |⟨rfl,_⟩ |rfl
   ·rw[g1]at hbi;cases hbi
    rcases getO j oj hj with⟨rfl,_⟩ |⟨rfl,_⟩ |⟨rfl,_⟩ |rfl
    ·rfl
    ·rw[g2]at hbj;cases hbj;exact absurd rfl pre.oa
    ·rw[g3]at hbj;exact absurd rfl (pre.bl _ hbj).1
    ·cases hlj
   ·rw[g2]at hbi;cases hbi
    rcases getO j oj hj with⟨rfl,_⟩ |⟨rfl,_⟩ |⟨rfl,_⟩ |rfl
    ·rw[g1]at hbj;cases hbj;exact absurd rfl pre.oa
    ·rfl
    ·rw[g3]at hbj;exact absurd rfl (pre.bl _ hbj).2.1
    ·cases hlj
   ·rw[g3]at hbi
    rcases getO j oj hj with⟨rfl,_⟩ |⟨rfl,_⟩ |⟨rfl,_⟩ |rfl
    ·rw[g1]at hbj;cases hbj;exact absurd rfl (pre.bl _ hbi).1
    ·rw[g2]at hbj;cases hbj;exact absurd rfl (pre.bl _ hbi).2.1
    ·rfl
    ·cases hlj
   ·cases hli
  inX:=fun b hb=>by
   rcases lb b hb with rfl |rfl |h
   ·exact⟨pre.xo,ltO,fun _=> .inl rfl⟩
   ·exact⟨pre.xa,ltA,fun _=> .inr (.inl rfl)⟩
   ·exact⟨(pre.bl b h).2.2.1,(pre.bl b h).2.2.2,fun _=> .inr (.inr h)⟩
  rT:=fun j d hj=>(tA' _ j d rfl hj).2
  rO:=fun i o ho=>(oOk i o ho).2
  tape:=rfl
  osw:=rfl
  out:=rfl
  size:=Nat.le_refl _
  frame:=fun _ _ _=>rfl
  xw:=fun b hb=>⟨pre.xl b hb,by
   rintro (rfl |rfl |h)
   ·exact pre.xo hb
   ·exact pre.xa hb
   ·exact (pre.bl b h).2.2.1 hb⟩}
theorem getW_of {os:List Obj} {i:Nat} {o:Obj} (h:os.getD i .dead=o) (hn:o≠ .dead):os[i]? =some o:=by
 rw[zq1]at h
 cases h2:os[i]? with
 |none=>rw[h2]at h;exact absurd h.symm hn
 |some x=>rw[h2]at h;simpa using h
theorem funW_ok {P:Program} {E:Env} (hK:Ok P E) (hyn:E.yld=none) {g:FuncId} {f:DFun} {e:TypeId} {n:Nat} (hc:chkFunW P E.ty g f e n=true) (k:Nat):SoundW P E.ty g e (dbodyW f g e n E k):=by
 intro x nb els rs hrs w v slv O A blk kk X pre
 unfold chkFunW at hc
 split at hc
 case h_2=>cases hc
 rename_i fn hf
 split at hc
 case h_2=>cases hc
 rename_i c hb
 simp only[zq3,beq_iff_eq,Nat.ble_eq]at hc
 obtain⟨c1,c2,c3,c4,c6,c7⟩:=hc
 unfold dbodyW at hrs
 split at hrs
 case h_2=>cases hrs
 rename_i st he
 unfold enterW at he
 simp only[pre.px,decide_true,Bool.and_self,zq5]at he
 have rel:=entryW (nt:=f.nt) pre c3
 have hN:st.os.length=f.nobj:=by rw[←he];show (wrL _ _).length=_;rw[wrL_len,List.length_replicate]
 have l1:st.os[1]? =some (.var [.own e 3 els.length]):=by
  rw[←he];simp only[wrL];rw[List.getElem?_set_ne (by omega),List.getElem?_set_ne (by omega),List.getElem?_set_self (by simp;omega)]
 have l2:st.os[2]? =some (.var [.fnr g [1,2]]):=by
  rw[←he];simp only[wrL];rw[List.getElem?_set_ne (by omega),List.getElem?_set_self (by simp;omega)]
 rw[he]at rel
 have hal:∀ i,i∈[1,2]→isDead (st.os.getD i .gone)=false:=by
  intro i hi
  simp only[List.mem_cons,List.not_mem_nil,or_false]at hi
  rcases hi with rfl |rfl
  ·rw[zq1,l1];rfl
  ·rw[zq1,l2];rfl
 refine calls_of_wp hf hb (wp_mono ((wpIn_wide (n:=0)).1 (code_ok (ro:=none) hK c f.body [1,2] c7 (C:=⟨E.ty,X,w,fun b=>b=O∨b=A∨blk=some b,(0,undef)⟩) (fun e f hf=>by rw[hyn]at hf;cases hf) rfl k st _ rs
  {tmps:= #[v,.pointer (some ⟨O,0,none⟩),.pointer (some ⟨A,0,none⟩)]++Array.replicate (fn.ntmps - (#[v,.pointer (some ⟨O,0,none⟩),.pointer (some ⟨A,0,none⟩)]:Array Value).size) undef,defers:=[]} w (ghW slv O A blk) hrs (by rw[c2];exact rel) hN hal)) fun ee a' w' ho=> ?_)
 obtain⟨ex,st',G',o1⟩:=ho
 have fin:∀ (hk:finishW g e n st'=some rs),a'.defers=[]∧∃ r,(results fn a'.tmps).run P w'= .ok r w'∧∃ m nb' els' slv' blk',PostW E.ty g e rs w w' r O A blk kk X m nb' els' slv' blk':=by
  intro hk
  unfold finishW at hk
  split at hk
  case h_2=>cases hk
  rename_i r cc g' hr ho1 ho2
  split at hk
  case h_2=>cases hk
  rename_i nb' els' ws hg hri
  simp only[decide_eq_true_eq]at hg
  subst hg
  cases hk
  obtain⟨vl,v1,v2,v3⟩:=resL_run o1.rel fn.results.toList [.t n] [.p ⟨false,[.int .i64]⟩] c6 fun i m r' hm hr'=>by
   obtain rfl:i=0:=by
    cases i with
    |zero=>rfl
    |succ i=>simp at hm
   simp only[List.getElem?_cons_zero,zq5]at hm hr'
   subst hm hr'
   refine⟨.int .i64 r,by simp only[resVal,hr],fun k hk=> ?_⟩
   cases hk
   rfl
  have hrv:=v3 0 _ _ (.int .i64 r) rfl rfl (by simp only[resVal,hr])
  have hvl:vl=[.int .i64 r]:=by
   match vl,v2 with
   |[a],_=>
    have h0:RepV E.ty w' (okB _ st'.os G' w') a (.int .i64 r):=hrv
    have:a= .int .i64 r:=by cases h0;rfl
    rw[this]
  have hrun:=results_run v1
  rw[hvl]at hrun
  have q1:st'.os[1]? =some (.var [cc]):=getW_of ho1 (by simp)
  have q2:st'.os[2]? =some (.var [.fnr g' [1,2]]):=getW_of ho2 (by simp)
  obtain⟨gO,cellsO,tO,qo1,qo2,qo3,qo4⟩:=o1.rel.os 1 _ q1
  obtain⟨gA,cellsA,tA,qa1,qa2,qa3,qa4⟩:=o1.rel.os 2 _ q2
  have qo5:=one_cell (by simpa using qo3)
  have qa5:=one_cell (by simpa using qa3)
  have k1:G' 1=(.pointer (some ⟨O,0,none⟩),some O):=(o1.keep 1 (by simp)).1
  have k2:G' 2=(.pointer (some ⟨A,0,none⟩),some A):=(o1.keep 2 (by simp)).1
  obtain rfl:gO=O:=by rw[k1]at qo1;simpa using qo1.symm
  obtain rfl:gA=A:=by rw[k2]at qa1;simpa using qa1.symm
  have sho:oAt st'.os 1= .var 1:=by rw[oAt_of q1];rfl
  have sha:oAt st'.os 2= .var 1:=by rw[oAt_of q2];rfl
  have rO:=(qo4 0 (by simp)).1
  have rA:=(qa4 0 (by simp)).1
  simp only[List.getD_cons_zero]at rO rA
  have eA:=cloW_of rA sho sha (by rw[k1]) (by rw[k2])
  rw[qo5]at qo2
  rw[qa5,eA]at qa2
  generalize cellsO.getD 0 undef=slv' at qo2 rO
  have lbO:LB st'.os G' gO:=⟨1,_,q1,rfl,by rw[k1]⟩
  have lbA:LB st'.os G' gA:=⟨2,_,q2,rfl,by rw[k2]⟩
  obtain⟨blk',hrow1,hblk⟩:=rowIn_spec o1.rel (fun id o h1 h2=>getW_of h1 h2) pre.hk rO hri
  have lbB:∀ b,blk'=some b→LB st'.os G' b∧b≠gO∧b≠gA:=by
   intro b hb
   rcases hblk with⟨_,rfl⟩ |⟨id,m,rfl,_,hid,rfl⟩
   ·cases hb
   ·refine⟨⟨id,_,hid,rfl,hb⟩,fun e1=> ?_,fun e1=> ?_⟩
    ·subst e1
     have:=o1.rel.inj id 1 _ _ b hid q1 rfl rfl hb (by rw[k1])
     subst this
     rw[hid]at q1;cases q1
    ·subst e1
     have:=o1.rel.inj id 2 _ _ b hid q2 rfl rfl hb (by rw[k2])
     subst this
     rw[hid]at q2;cases q2
  refine⟨o1.df,_,hrun,r,nb',els',slv',blk',{
   rs:=rfl
   r:=rfl
   ho:=⟨tO,qo2⟩
   ha:=⟨tA,qa2⟩
   row:=hrow1.mono fun b hb=> ?_
   bl:=fun b hb=> ?_
   tape:=o1.rel.tape
   os:=o1.rel.osw
   out:=o1.rel.out
   size:=o1.rel.size
   frame:=fun b hb b1 b2 b3=>o1.rel.frame b hb ?_}⟩
  ·obtain⟨p1,p2,p3⟩:=hb
   refine⟨p1,p3, ?_, ?_, ?_⟩
   ·rintro rfl;exact p2 lbO
   ·rintro rfl;exact p2 lbA
   ·intro hb;exact p2 (lbB b hb).1
  ·obtain⟨lb,b1,b2⟩:=lbB b hb
   obtain⟨x1,x2,x3⟩:=o1.rel.inX b lb
   refine⟨?_,x2,b1,b2,x1⟩
   by_cases hlt:b<w.heap.size
   ·rcases x3 hlt with h |h |h
    ·exact absurd h b1
    ·exact absurd h b2
    ·exact .inr h
   ·exact .inl (by omega)
  ·rintro (h |h |h)
   ·exact b1 h
   ·exact b2 h
   ·exact b3 h
 have hk:=o1.k
 have hex:=o1.ex
 cases ex with
 |norm=>
  cases ee<;>first |exact hex.elim |exact fin hk
 |ret=>
  cases ee<;>first |exact hex.elim |exact fin hk
 |exit id=>cases hk
end
section
def ghY (slv:Value) (O:Nat) (blk:Option Nat):Gh:=fun i=>if i=1 then (.pointer (some ⟨O,0,none⟩),some O)else if i=3 then (slv,blk)else (undef,none)
theorem Rel.turn {C:Cx} {tm:Array Value} {st:St} {G:Gh} {w w':World} (h:Rel C tm st G w) (hsame:∀ b,b<w.heap.size→ ¬C.X b→w'.heap[b]? =w.heap[b]?) (hsz:w.heap.size≤w'.heap.size):Rel (C.at w' (LB st.os G)) tm st G w':=by
 have hok:∀ b,okB C st.os G w b→okB (C.at w' (LB st.os G)) st.os G w' b:=fun b ⟨h1,h2,h3⟩=>⟨by omega,h2,h3⟩
 have hok':∀ b,okB C st.os G w b→okB C st.os G w' b:=fun b ⟨h1,h2,h3⟩=>⟨by omega,h2,h3⟩
 have hS:Same (okB C st.os G w) w w':=fun b hb=>hsame b hb.1 hb.2.2
 exact {
  tsz:=h.tsz
  ts:=fun j d hj=>(h.ts j d hj).mono hok' hS fun i _=> .inl ⟨rfl,rfl⟩
  os:=fun j o hj=>(h.os j o hj).mono hok' hS (fun i _=> .inl ⟨rfl,rfl⟩) rfl fun hl b hb=>hsame b (h.inX b ⟨j,o,hj,hl,hb⟩).2.1 (h.inX b ⟨j,o,hj,hl,hb⟩).1
  inj:=h.inj
  inX:=fun b hl=>by have:=h.inX b hl;exact⟨this.1,by omega,fun _=>hl⟩
  rT:=h.rT
  rO:=h.rO
  tape:=rfl
  osw:=rfl
  out:=rfl
  size:=Nat.le_refl _
  frame:=fun _ _ _=>rfl
  xw:=fun b hb=>⟨by have:=(h.xw b hb).1;have:=h.size;show b<w'.heap.size;omega,fun hl=>(h.inX b hl).1 hb⟩}
theorem entryR {ty:TypeId→Option Vk} {e:TypeId} {nb:Bool} {els:List D} {w:World} {slv:Value} {O:Nat} {blk:Option Nat} {k:Vk} {X:Nat→Prop} {yl:Nat×Value} {nobj:Nat} {tm:Array Value} {ts:List D}
  (hn:4≤nobj) (xo: ¬X O) (bl:∀ b,blk=some b→b≠O∧ ¬X b∧b<w.heap.size) (xl:∀ b,X b→b<w.heap.size) (ho:∃ t,w.heap[O]? =some (.cells #[slv] t (0,0))) (hk:ty e=some k)
  (row:RowR ty w (fun b=>b<w.heap.size∧ ¬X b∧b≠O∧blk≠some b) k slv blk els nb) (tsz:tm.size=ts.length)
  (hts:∀ (j:Nat) (d:D),ts[j]? =some d→d= .undef∨(d= .tup []∧tm.getD j undef=undef)∨(d= .ptr 1 0∧tm.getD j undef= .pointer (some ⟨O,0,none⟩))∨(d= .yl 1∧tm.getD j undef= .func (.yield yl.1) #[] #[]∧yl.2= .pointer (some ⟨O,0,none⟩))∨
   (pureD d=true∧RepV ty w (fun b=>b<w.heap.size∧ ¬X b∧b≠O∧blk≠some b) (tm.getD j undef) d)):
  Rel ⟨ty,X,w,fun b=>b=O∨blk=some b,yl⟩ tm (rowSt e nobj ts nb els) (ghY slv O blk) w:=by
 unfold rowSt
 generalize hos:wrL (List.replicate nobj Obj.dead) [(1,.var [.own e 3 els.length]),(3,.arr e nb els)]=os
 have o1:os[1]? =some (.var [.own e 3 els.length]):=by rw[←hos];simp only[wrL];rw[List.getElem?_set_ne (by omega),List.getElem?_set_self (by simp;omega)]
 have o3:os[3]? =some (.arr e nb els):=by rw[←hos];simp only[wrL];rw[List.getElem?_set_self (by simp;omega)]
 have oo:∀ i o,os[i]? =some o→i≠1→i≠3→o= .dead:=by
  intro i o h h1 h3
  rw[←hos]at h
  simp only[wrL]at h
  rw[List.getElem?_set_ne (fun e=>h3 e.symm),List.getElem?_set_ne (fun e=>h1 e.symm),List.getElem?_replicate]at h
  split at h
  ·cases h;rfl
  ·cases h
 have getO:∀ i o,os[i]? =some o→(i=1∧o= .var [.own e 3 els.length])∨(i=3∧o= .arr e nb els)∨o= .dead:=by
  intro i o h
  by_cases h1:i=1
  ·subst h1;rw[o1]at h;cases h;exact .inl ⟨rfl,rfl⟩
  by_cases h3:i=3
  ·subst h3;rw[o3]at h;cases h;exact .inr (.inl ⟨rfl,rfl⟩)
  ·exact .inr (.inr (oo i o h h1 h3))
 generalize hG:ghY slv O blk=G
 have g1:G 1=(.pointer (some ⟨O,0,none⟩),some O):=by rw[←hG];rfl
 have g3:G 3=(slv,blk):=by rw[←hG];rfl
 generalize hC:(⟨ty,X,w,fun b=>b=O∨blk=some b,yl⟩:Cx)=C
 have hCt:C.ty=ty:=by rw[←hC]
 have hCX:C.X=X:=by rw[←hC]
 have hCy:C.yl=yl:=by rw[←hC]
 have lb:∀ b,LB os G b→b=O∨blk=some b:=by
  rintro b ⟨i,o,hi,hl,hb⟩
  rcases getO i o hi with⟨rfl,_⟩ |⟨rfl,_⟩ |rfl
  ·rw[g1]at hb;cases hb;exact .inl rfl
  ·rw[g3]at hb;exact .inr hb
  ·cases hl
 have hok:∀ b,(b<w.heap.size∧ ¬X b∧b≠O∧blk≠some b)→okB C os G w b:=by
  rintro b ⟨p1,p2,p3,p5⟩
  refine⟨p1,fun hl=> ?_,by rw[hCX];exact p2⟩
  rcases lb b hl with h |h
  ·exact p3 h
  ·exact p5 h
 obtain⟨tO,pO⟩:=ho
 have ltO:O<w.heap.size:=(Array.getElem?_eq_some_iff.1 pO).1
 have hrow:RowR C.ty w (okB C os G w) k slv blk els nb:=by rw[hCt];exact row.mono hok
 have d1:isDead (os.getD 1 .gone)=false:=by rw[zq1,o1];rfl
 have d3:isDead (os.getD 3 .gone)=false:=by rw[zq1,o3];rfl
 have a1:oAt os 1= .var 1:=by rw[oAt_of o1];rfl
 have a3:oAt os 3= .row e els.length:=by rw[oAt_of o3];rfl
 have tA':∀ (j:Nat) (d:D),ts[j]? =some d→RepT C os G w (tm.getD j undef) d∧∀ id,id∈refsD d→isDead (os.getD id .gone)=false:=by
  intro j d hj
  rcases hts j d hj with rfl |⟨rfl,h2⟩ |⟨rfl,h2⟩ |⟨rfl,h2,h3⟩ |⟨h1,h2⟩
  ·exact⟨trivial,fun id hid=>by simp[refsD,refs1,refs0,refsb]at hid⟩
  ·rw[h2]
   exact⟨⟨#[],rfl,rfl,fun j hj=>by simp at hj⟩,fun id hid=>by simp[refsD]at hid⟩
  ·rw[h2]
   refine⟨⟨⟨_,rfl,rfl⟩, ?_⟩,fun id hid=> ?_⟩
   ·rw[a1];exact⟨O,by rw[g1],rfl⟩
   ·have:id=1:=by simpa[refsD,refs1,refs0]using hid
    subst this;exact d1
  ·rw[h2]
   refine⟨⟨by rw[hCy], ?_⟩,fun id hid=> ?_⟩
   ·rw[a1,hCy,h3];show (G 1).1=_;rw[g1]
   ·have:id=1:=by simpa[refsD,refs1,refs0]using hid
    subst this;exact d1
  ·have rx:RepV C.ty w (okB C os G w) (tm.getD j undef) d:=by rw[hCt];exact h2.mono hok (fun _ _=>rfl)
   exact⟨pureD_rep rx h1,fun id hid=>by rw[repV_refs rx]at hid;cases hid⟩
 have oOk:∀ (i:Nat) (o:Obj),os[i]? =some o→ObjRel C os G w i o∧∀ id,id∈refsO o→isDead (os.getD id .gone)=false:=by
  intro i o ho
  rcases getO i o ho with⟨rfl,rfl⟩ |⟨rfl,rfl⟩ |rfl
  ·refine⟨⟨O, #[slv],tO,g1,pO,rfl,fun j hj=> ?_⟩,fun id hid=> ?_⟩
   ·obtain rfl:j=0:=by simpa using hj
    refine⟨?_,rfl⟩
    exact own_rept (C:=C) (G:=G) (w:=w) (rowR_len hrow) a3 (by rw[g3];rfl)
   ·have:id=3:=by simpa[refsO,refsL,refs0,refsb]using hid
    subst this;exact d3
  ·exact⟨objRel_row.2 ⟨k,by rw[hCt];exact hk,by rw[g3];exact hrow⟩,fun id hid=>by simp[refsO]at hid⟩
  ·exact⟨trivial,fun id hid=>by simp[refsO]at hid⟩
 subst hC
 exact {
  tsz:=tsz
  ts:=fun j d hj=>(tA' j d hj).1
  os:=fun i o ho=>(oOk i o ho).1
  inj:=fun i j oi oj b hi hj hli hlj hbi hbj=>by
   rcases getO i oi hi with⟨rfl,_⟩ |⟨rfl,_⟩ |rfl
   ·rw[g1]at hbi;cases hbi
    rcases getO j oj hj with⟨rfl,_⟩ |⟨rfl,_⟩ |rfl
    ·rfl
    ·rw[g3]at hbj;exact absurd rfl (bl _ hbj).1
    ·cases hlj
   ·rw[g3]at hbi
    rcases getO j oj hj with⟨rfl,_⟩ |⟨rfl,_⟩ |rfl
    ·rw[g1]at hbj;cases hbj;exact absurd rfl (bl _ hbi).1
    ·rfl
    ·cases hlj
   ·cases hli
  inX:=fun b hb=>by
   rcases lb b hb with rfl |h
   ·exact⟨xo,ltO,fun _=> .inl rfl⟩
   ·exact⟨(bl b h).2.1,(bl b h).2.2,fun _=> .inr h⟩
  rT:=fun j d hj=>(tA' j d hj).2
  rO:=fun i o ho=>(oOk i o ho).2
  tape:=rfl
  osw:=rfl
  out:=rfl
  size:=Nat.le_refl _
  frame:=fun _ _ _=>rfl
  xw:=fun b hb=>⟨xl b hb,by
   rintro (rfl |h)
   ·exact xo hb
   ·exact (bl b h).2.1 hb⟩}
theorem endR {C:Cx} {tm:Array Value} {st:St} {G:Gh} {w:World} {e:TypeId} {k:Vk} {O:Nat} {rs:List D} (h:Rel C tm st G w) (hk:C.ty e=some k) (hG:G 1=(.pointer (some ⟨O,0,none⟩),some O)) (hf:finishR e st=some rs):
  ∃ nb els slv blk,rs=[.ov e nb els]∧(∃ t,w.heap[O]? =some (.cells #[slv] t (0,0)))∧RowR C.ty w (okB C st.os G w) k slv blk els nb∧LB st.os G O∧∀ b,blk=some b→LB st.os G b∧b≠O:=by
 unfold finishR at hf
 split at hf
 case h_2=>cases hf
 rename_i cc ho1
 split at hf
 case h_2=>cases hf
 rename_i nb els ws hri
 cases hf
 have q1:st.os[1]? =some (.var [cc]):=getW_of ho1 (by simp)
 obtain⟨gO,cellsO,tO,qo1,qo2,qo3,qo4⟩:=h.os 1 _ q1
 have qo5:=one_cell (by simpa using qo3)
 obtain rfl:gO=O:=by rw[hG]at qo1;simpa using qo1.symm
 have rO:=(qo4 0 (by simp)).1
 simp only[List.getD_cons_zero]at rO
 rw[qo5]at qo2
 obtain⟨blk,hrow1,hblk⟩:=rowIn_spec (a:=⟨tm,[]⟩) h (fun id o h1 h2=>getW_of h1 h2) hk rO hri
 refine⟨nb,els,_,blk,rfl,⟨tO,qo2⟩,hrow1,⟨1,_,q1,rfl,by rw[hG]⟩,fun b hb=> ?_⟩
 rcases hblk with⟨_,rfl⟩ |⟨id,m,rfl,_,hid,rfl⟩
 ·cases hb
 ·refine⟨⟨id,_,hid,rfl,hb⟩,fun e1=> ?_⟩
  subst e1
  have:=h.inj id 1 _ _ b hid q1 rfl rfl hb (by rw[hG])
  subst this
  rw[hid]at q1;cases q1
end
section
theorem putObj_same {w:World} {l:Nat} {o o':_root_.Go.Obj} (h:w.heap[l]? =some o):(w.putObj l o').heap[l]? =some o':=World.putObj_heap_same (Array.getElem?_eq_some_iff.1 h).1
theorem RowR.world {ok:Nat→Prop} {ty:TypeId→Option Vk} {w w':World} {k:Vk} {v:Value} {blk:Option Nat} {els:List D} {nb:Bool} (h:RowR ty w ok k v blk els nb) (hs:∀ q,ok q→w'.heap[q]? =w.heap[q]?) (hb:∀ q,blk=some q→w'.heap[q]? =w.heap[q]?):RowR ty w' ok k v blk els nb:=by
 obtain⟨xs,h1,h2,h3⟩:=h
 refine⟨xs, ?_,h2,fun i j hi hj=>(h3 i j hi hj).mono (fun _ h=>h) hs⟩
 obtain⟨g0,g⟩:=h1
 refine⟨g0, ?_⟩
 rcases g with g |⟨g,c,cap,cur,t,g1,g2,g3,g4⟩
 ·exact .inl g
 ·exact .inr ⟨g,c,cap,cur,t,g1,g2,by rw[hb c g1];exact g3,g4⟩
theorem round_ok {P:Program} {E:Env} (hK:Ok P E) (hyn:E.yld=none) {b:RBody} {e:TypeId} {k:Vk} {ca cb:Code} (hn:4≤b.nobj) (hpo:b.p≠b.o) (hpl:b.p<b.nt) (hk:E.ty e=some k)
  (hca:chkCode P E.ty b.nobj [1] ca b.assign=true) (hcb:chkCode P E.ty b.nobj [1] cb b.body=true) (kk:Nat) {x:D} {nb:Bool} {els rs:List D} (hf:dround b e E kk [x,.ov e nb els]=some rs)
  {w:World} {v slv:Value} {O:Nat} {blk:Option Nat} {X:Nat→Prop} {l:Nat} {rc:Loop} (pre:PreY E.ty e x nb els w v slv O blk k X l rc)
  (r1:rc.params= #[b.p]) (r2:rc.tmps.size=b.nt) (r3:rc.tmps.getD b.o undef= .pointer (some ⟨O,0,none⟩)) (r4:rc.assign=ca) (r5:rc.body=cb) (r6:rc.state= .ready) (r7:rc.pending=none):
  RoundIn (wd none) 0 P l rc.fn ((rc.params.zip #[v]).foldl (fun t (p,v)=>t.setIfInBounds p v) rc.tmps) rc.assign rc.body w fun
   | .returned r,w'=>r= .bool true∧∃ nb' els' slv' blk',PostY E.ty e rs w w' O blk k X nb' els' slv' blk'
   |_,_=>False:=by
 have etm:(rc.params.zip #[v]).foldl (fun t (p,v)=>t.setIfInBounds p v) rc.tmps=rc.tmps.setIfInBounds b.p v:=by rw[r1];simp
 rw[etm,r4,r5]
 unfold dround at hf
 simp only[pre.px,decide_true,Bool.and_self]at hf
 unfold droundK at hf
 have rel:Rel ⟨E.ty,X,w,fun q=>q=O∨blk=some q,(0,undef)⟩ (rc.tmps.setIfInBounds b.p v) (rowSt e b.nobj (((List.replicate b.nt .undef).set b.o (.ptr 1 0)).set b.p x) nb els) (ghY slv O blk) w:=by
  refine entryR hn pre.xo pre.bl pre.xl pre.ho hk pre.row (by simp[r2]) fun j d hj=> ?_
  rw[List.getElem?_set]at hj
  by_cases h1:b.p=j
  ·subst h1
   rw[if_pos rfl]at hj
   split at hj
   ·cases hj
    refine .inr (.inr (.inr (.inr ⟨pre.px, ?_⟩)))
    have:(rc.tmps.setIfInBounds b.p v).getD b.p undef=v:=by simp[zq2,r2,hpl]
    rw[this]
    exact pre.rx
   ·cases hj
  ·rw[if_neg h1,List.getElem?_set]at hj
   have hne:(rc.tmps.setIfInBounds b.p v).getD j undef=rc.tmps.getD j undef:=by simp[zq2,Array.getElem?_setIfInBounds_ne h1]
   by_cases h2:b.o=j
   ·subst h2
    rw[if_pos rfl]at hj
    split at hj
    ·cases hj
     exact .inr (.inr (.inl ⟨rfl,by rw[hne];exact r3⟩))
    ·cases hj
   ·rw[if_neg h2,List.getElem?_replicate]at hj
    split at hj
    ·cases hj;exact .inl rfl
    ·cases hj
 generalize hst:rowSt e b.nobj (((List.replicate b.nt .undef).set b.o (.ptr 1 0)).set b.p x) nb els=st at rel hf
 have hN:st.os.length=b.nobj:=by rw[←hst];show (wrL _ _).length=_;rw[wrL_len,List.length_replicate]
 have hal:∀ i,i∈[1]→isDead (st.os.getD i .gone)=false:=by
  intro i hi
  simp only[List.mem_cons,List.not_mem_nil,or_false]at hi
  subst hi
  have l1:st.os[1]? =some (.var [.own e 3 els.length]):=by
   rw[←hst];simp only[rowSt,wrL];rw[List.getElem?_set_ne (by omega),List.getElem?_set_self (by simp;omega)]
  rw[zq1,l1];rfl
 have noy:∀ (C:Cx),YOk C P E:=fun C e f hf=>by rw[hyn]at hf;cases hf
 refine roundIn_of_wpIn (F:=wd none) trivial ?_
 show ca.wpIn (wd (some l)) 0 P _ _ w
 refine wpIn_mono (code_ok (ro:=some l) hK ca b.assign [1] hca (C:=⟨E.ty,X,w,fun q=>q=O∨blk=some q,(0,undef)⟩) (noy _) rfl kk st _ rs {tmps:=rc.tmps.setIfInBounds b.p v,defers:=[]} w (ghY slv O blk) hf rel hN hal) fun e1 a1 w1 ho=> ?_
 obtain⟨ex,st1,G1,o1⟩:=ho
 have hex:=o1.ex
 have hk1:=o1.k
 cases ex with
 |exit _=>cases hk1
 |ret=>cases hk1
 |norm=>
 cases e1<;>first |exact hex.elim |skip
 simp only at hk1
 have fx:∀ q,X q→w1.heap[q]? =w.heap[q]? :=fun q hq=>o1.rel.frame q (pre.xl q hq) (o1.rel.xw q hq).2
 have hl1:w1.heap[l]? =some (.loop rc):=(fx l pre.lx).trans pre.hl
 refine⟨w1.putObj l (.loop {rc with state:= .busy}),run_beginRound hl1 r6, ?_⟩
 generalize hw2:w1.putObj l (.loop {rc with state:= .busy})=w2
 have hsz2:w2.heap.size=w1.heap.size:=by rw[←hw2];simp
 have h12:∀ q,q≠l→w2.heap[q]? =w1.heap[q]? :=fun q hq=>by rw[←hw2];exact World.putObj_heap_other hq
 have hl2:w2.heap[l]? =some (.loop {rc with state:= .busy}):=by rw[←hw2];exact putObj_same hl1
 have rel2:=o1.rel.turn (w':=w2) (fun q hq hx=>h12 q fun e1=>hx (e1▸pre.lx)) (by omega)
 refine wpIn_mono (code_ok (ro:=some l) hK cb b.body [1] hcb (noy _) rfl kk st1 _ rs a1 w2 G1 hk1 rel2 (o1.ol.trans hN) (fun i hi=>(o1.keep i hi).2)) fun e2 a2 w3 ho2=> ?_
 obtain⟨ex2,st2,G2,o2⟩:=ho2
 have hex2:=o2.ex
 have hk2:=o2.k
 cases ex2 with
 |exit _=>cases hk2
 |ret=>cases hk2
 |norm=>
 cases e2<;>first |exact hex2.elim |skip
 simp only at hk2
 have k1:G2 1=(.pointer (some ⟨O,0,none⟩),some O):=by
  rw[(o2.keep 1 (by simp)).1,(o1.keep 1 (by simp)).1];rfl
 obtain⟨nb',els',slv',blk',rfl,⟨tO',pO'⟩,hrow,lbO,lbB⟩:=endR o2.rel (show Cx.ty _ e=some k from hk) k1 hk2
 have f23:∀ q,q<w2.heap.size→ ¬LB st1.os G1 q→w3.heap[q]? =w2.heap[q]? :=fun q hq hn=>o2.rel.frame q hq hn
 have lx1:∀ q,X q→q<w2.heap.size∧ ¬LB st1.os G1 q:=fun q hq=>o2.rel.xw q hq
 have hl3:w3.heap[l]? =some (.loop {rc with state:= .busy}):=(f23 l (lx1 l pre.lx).1 (lx1 l pre.lx).2).trans hl2
 have hend:=run_endRound (P:=P) none hl3
 generalize hw4:w3.putObj l (.loop {({rc with state:= .busy}:Loop)with state:=if (none:Option Code).isNone then .ready else .done,pending:=none})=w4 at hend
 have hrc:({({rc with state:= .busy}:Loop)with state:=if (none:Option Code).isNone then .ready else .done,pending:=none}:Loop)=rc:=by
  cases rc;simp only at r6 r7;subst r6 r7;rfl
 rw[hrc]at hw4
 have hsz4:w4.heap.size=w3.heap.size:=by rw[←hw4];simp
 have h34:∀ q,q≠l→w4.heap[q]? =w3.heap[q]? :=fun q hq=>by rw[←hw4];exact World.putObj_heap_other hq
 have hl4:w4.heap[l]? =some (.loop rc):=by rw[←hw4];exact putObj_same hl3
 have hOl:O≠l:=fun e1=>pre.xo (e1▸pre.lx)
 have s1:=o1.rel.size
 have s2:w2.heap.size≤w3.heap.size:=o2.rel.size
 have s1':w.heap.size≤w1.heap.size:=s1
 refine⟨_,w4,hend,rfl,nb',els',slv',blk',{
  rs:=rfl
  ho:=⟨tO',by rw[h34 O hOl];exact pO'⟩
  row:= ?_
  bl:=fun q hq=> ?_
  tape:= ?_
  os:= ?_
  out:= ?_
  size:=by omega
  frame:=fun q hq q1 q2=> ?_}⟩
 ·have hr3:RowR E.ty w3 (fun q=>q<w4.heap.size∧ ¬X q∧q≠O∧blk'≠some q) k slv' blk' els' nb':=hrow.mono fun q hq=>by
   obtain⟨p1,p2,p3⟩:=hq
   refine⟨by omega,p3, ?_, ?_⟩
   ·rintro rfl;exact p2 lbO
   ·intro hb;exact p2 (lbB q hb).1
  exact hr3.world (fun q hq=>h34 q fun e1=>hq.2.1 (e1▸pre.lx)) (fun q hq=>h34 q fun e1=>(o2.rel.inX q (lbB q hq).1).1 (e1▸pre.lx))
 ·obtain⟨lb,q1⟩:=lbB q hq
  obtain⟨x1,x2,x3⟩:=o2.rel.inX q lb
  refine⟨?_,by omega,q1,x1⟩
  by_cases hlt:q<w.heap.size
  ·have h5:LB st1.os G1 q:=x3 (show q<w2.heap.size by omega)
   rcases (o1.rel.inX q h5).2.2 hlt with h6 |h6
   ·exact absurd h6 q1
   ·exact .inr h6
  ·exact .inl (by omega)
 ·have t1:w1.tape=w.tape:=o1.rel.tape
  have t3:w3.tape=w2.tape:=o2.rel.tape
  rw[←hw4,←hw2]at*
  exact t3.trans t1
 ·have t1:w1.os=w.os:=o1.rel.osw
  have t3:w3.os=w2.os:=o2.rel.osw
  rw[←hw4,←hw2]at*
  exact t3.trans t1
 ·have t1:w1.output=w.output:=o1.rel.out
  have t3:w3.output=w2.output:=o2.rel.out
  rw[←hw4,←hw2]at*
  exact t3.trans t1
 ·by_cases hql:q=l
  ·subst hql;rw[hl4,pre.hl]
  ·rw[h34 q hql]
   have hM: ¬(q=O∨blk=some q):=by rintro (h |h);exact q1 h;exact q2 h
   have hn1: ¬LB st1.os G1 q:=fun h5=>hM ((o1.rel.inX q h5).2.2 hq)
   rw[f23 q (by omega) hn1,h12 q hql]
   exact o1.rel.frame q hq hM
end
section
theorem iter_ok {P:Program} {E:Env} (hK:Ok P E) {g:FuncId} {f:DFun} {e:TypeId} {k:Vk} (hk:E.ty e=some k) (hc:chkFunI P E.ty g f e=true) (kk:Nat) {caps:List D} {nb:Bool} {els rs:List D} (hf:diter f e E kk caps nb els=some rs)
  {w:World} {slv:Value} {O:Nat} {blk:Option Nat} {X:Nat→Prop} {l:Nat} {lb:Array Value} (hY:YOk ⟨E.ty,X,w,fun b=>b=O∨blk=some b,(l,.pointer (some ⟨O,0,none⟩))⟩ P E)
  (xo: ¬X O) (bl:∀ b,blk=some b→b≠O∧ ¬X b∧b<w.heap.size) (xl:∀ b,X b→b<w.heap.size) (ho:∃ t,w.heap[O]? =some (.cells #[slv] t (0,0)))
  (row:RowR E.ty w (fun b=>b<w.heap.size∧ ¬X b∧b≠O∧blk≠some b) k slv blk els nb) (hlb:lb.size=caps.length)
  (hcap:∀ j,j<caps.length→RepV E.ty w (fun b=>b<w.heap.size∧ ¬X b∧b≠O∧blk≠some b) (lb.getD j undef) (caps.getD j .undef)):
  Calls P g (#[.func (.yield l) #[] #[]]++lb) w fun
   | .returned r,w'=>∃ nb' els' slv' blk',PostY E.ty e rs w w' O blk k X nb' els' slv' blk'
   |_,_=>False:=by
 unfold chkFunI at hc
 split at hc
 case h_2=>cases hc
 rename_i fn hfn
 split at hc
 case h_2=>cases hc
 rename_i c hb
 simp only[zq3,beq_iff_eq,Nat.ble_eq]at hc
 obtain⟨c1,c2,c3,c4,c6,c7⟩:=hc
 unfold diter at hf
 split at hf
 case h_2=>cases hf
 rename_i hp
 have hvs:(#[Value.func (.yield l) #[] #[]]++lb).size=caps.length+1:=by simp[hlb,Nat.add_comm]
 have rel:Rel ⟨E.ty,X,w,fun b=>b=O∨blk=some b,(l,.pointer (some ⟨O,0,none⟩))⟩ ((#[Value.func (.yield l) #[] #[]]++lb)++Array.replicate (fn.ntmps - (#[Value.func (.yield l) #[] #[]]++lb).size) undef)
   (rowSt e f.nobj (.yl 1::caps++List.replicate (f.nt - (caps.length+1)) (.tup [])) nb els) (ghY slv O blk) w:=by
  refine entryR c3 xo bl xl ho hk row (by simp[hlb,c2];omega) fun j d hj=> ?_
  rw[hvs,c2]
  match j with
  |0=>
   simp at hj;subst hj
   exact .inr (.inr (.inr (.inl ⟨rfl,by simp[zq2,Array.getElem?_append],rfl⟩)))
  |j+1=>
   simp only[List.cons_append,List.getElem?_cons_succ]at hj
   by_cases hjl:j<caps.length
   ·rw[List.getElem?_append_left hjl,zq4 hjl]at hj
    cases hj
    refine .inr (.inr (.inr (.inr ⟨List.all_eq_true.1 hp _ (List.getElem_mem hjl), ?_⟩)))
    have:=hcap j hjl
    have e1:((#[Value.func (.yield l) #[] #[]]++lb)++Array.replicate (f.nt - (caps.length+1)) undef).getD (j+1) undef=lb.getD j undef:=by
     have h1:j+1<1+lb.size:=by omega
     have h2:j<lb.size:=by omega
     simp[zq2,Array.getElem?_append,h1,h2]
    rw[e1]
    have e2:caps.getD j .undef=caps[j]:=by simp[zq1,hjl]
    rw[←e2]
    exact this
   ·rw[List.getElem?_append_right (by omega),List.getElem?_replicate]at hj
    split at hj
    ·cases hj
     refine .inr (.inl ⟨rfl, ?_⟩)
     rw[zq2,Array.getElem?_append,if_neg (by simp[hlb];omega)]
     simp only[Array.getElem?_replicate]
     split<;>rfl
    ·cases hj
 generalize hst:rowSt e f.nobj (.yl 1::caps++List.replicate (f.nt - (caps.length+1)) (.tup [])) nb els=st at rel hf
 have hN:st.os.length=f.nobj:=by rw[←hst];show (wrL _ _).length=_;rw[wrL_len,List.length_replicate]
 have hal:∀ i,i∈[1]→isDead (st.os.getD i .gone)=false:=by
  intro i hi
  simp only[List.mem_cons,List.not_mem_nil,or_false]at hi
  subst hi
  have l1:st.os[1]? =some (.var [.own e 3 els.length]):=by
   rw[←hst];simp only[rowSt,wrL];rw[List.getElem?_set_ne (by omega),List.getElem?_set_self (by simp;omega)]
  rw[zq1,l1];rfl
 refine calls_of_wp hfn hb (wp_mono ((wpIn_wide (n:=0)).1 (code_ok (ro:=none) hK c f.body [1] c7 hY rfl kk st _ rs
  {tmps:=(#[Value.func (.yield l) #[] #[]]++lb)++Array.replicate (fn.ntmps - (#[Value.func (.yield l) #[] #[]]++lb).size) undef,defers:=[]} w (ghY slv O blk) hf rel hN hal)) fun ee a' w' ho=> ?_)
 obtain⟨ex,st',G',o1⟩:=ho
 have fin:∀ (hk:finishR e st'=some rs),a'.defers=[]∧∃ r,(results fn a'.tmps).run P w'= .ok r w'∧∃ nb' els' slv' blk',PostY E.ty e rs w w' O blk k X nb' els' slv' blk':=by
  intro hfin
  obtain⟨vl,v1,v2,v3⟩:=resL_run o1.rel fn.results.toList [] [] c6 fun i m r' hm hr'=>by simp at hm
  have hrun:=results_run v1
  have k1:G' 1=(.pointer (some ⟨O,0,none⟩),some O):=(o1.keep 1 (by simp)).1
  obtain⟨nb',els',slv',blk',rfl,⟨tO',pO'⟩,hrow,lbO,lbB⟩:=endR o1.rel hk k1 hfin
  refine⟨o1.df,_,hrun,nb',els',slv',blk',{
   rs:=rfl
   ho:=⟨tO',pO'⟩
   row:=hrow.mono fun b hb=> ?_
   bl:=fun b hb=> ?_
   tape:=o1.rel.tape
   os:=o1.rel.osw
   out:=o1.rel.out
   size:=o1.rel.size
   frame:=fun b hb b1 b2=>o1.rel.frame b hb ?_}⟩
  ·obtain⟨p1,p2,p3⟩:=hb
   refine⟨p1,p3, ?_, ?_⟩
   ·rintro rfl;exact p2 lbO
   ·intro hb;exact p2 (lbB b hb).1
  ·obtain⟨lb,b1⟩:=lbB b hb
   obtain⟨x1,x2,x3⟩:=o1.rel.inX b lb
   refine⟨?_,x2,b1,x1⟩
   by_cases hlt:b<w.heap.size
   ·rcases x3 hlt with h |h
    ·exact absurd h b1
    ·exact .inr h
   ·exact .inl (by omega)
  ·rintro (h |h)
   ·exact b1 h
   ·exact b2 h
 have hk1:=o1.k
 have hex:=o1.ex
 cases ex with
 |norm=>
  cases ee<;>first |exact hex.elim |exact fin hk1
 |ret=>
  cases ee<;>first |exact hex.elim |exact fin hk1
 |exit id=>cases hk1
end
section
abbrev cx (C:Cx) (X:Nat→Prop) (w0:World) (M:Nat→Prop):Cx:=⟨C.ty,X,w0,M,C.yl⟩
section
variable {C:Cx} {os os':List Obj} {G G':Gh} {w w':World} {X' M':Nat→Prop} {w0':World}
theorem ElaAt.monoX {v:Value} {i off:Nat} {b:D} (h:ElaAt C os G w v i off b) (hok:∀ b,okB C os G w b→okB (cx C X' w0' M') os' G' w' b) (hs:Same (okB C os G w) w w')
  (hid:∀ id,id∈refsb b→(oAt os' id=oAt os id∧G' id=G id)∨oAt os' id= .no):ElaAt (cx C X' w0' M') os' G' w' v i off b:=by
 cases b with
 |sl e nb els=>
  obtain⟨h1,ad,c,k,h2,h3,h4⟩:=h
  exact⟨h1,ad,c,k,h2,h3.mono hok hs,h4⟩
 |own e' id n=>
  rcases hid id (by simp[refsb])with⟨h1,h2⟩ |h1
  ·simp only[ElaAt,h1,h2]at h⊢;exact h
  ·simp only[ElaAt,h1]
 |ownv e' id o len=>
  rcases hid id (by simp[refsb])with⟨h1,h2⟩ |h1
  ·simp only[ElaAt,h1,h2]at h⊢;exact h
  ·simp only[ElaAt,h1]
 |_=>exact h.elim
theorem RepT0.monoX {v:Value} {d:D} (h:RepT0 C os G w v d) (hok:∀ b,okB C os G w b→okB (cx C X' w0' M') os' G' w' b) (hs:Same (okB C os G w) w w')
  (hid:∀ id,id∈refs0 d→(oAt os' id=oAt os id∧G' id=G id)∨oAt os' id= .no):RepT0 (cx C X' w0' M') os' G' w' v d:=by
 cases d with
 |undef=>trivial
 |own e' id n=>
  rcases hid id (by simp[refsb,refs0])with⟨h1,h2⟩ |h1
  ·simp only[RepT0,h1,h2]at h⊢;exact h
  ·refine⟨h.1, ?_⟩;simp only[h1]
 |ownv e' id o len=>
  rcases hid id (by simp[refsb,refs0])with⟨h1,h2⟩ |h1
  ·simp only[RepT0,h1,h2]at h⊢;exact h
  ·refine⟨h.1, ?_⟩;simp only[h1]
 |ptr id off=>
  rcases hid id (by simp[refs0])with⟨h1,h2⟩ |h1
  ·simp only[RepT0,h1,h2]at h⊢;exact h
  ·refine⟨h.1, ?_⟩;simp only[h1]
 |elp id lo n i=>
  rcases hid id (by simp[refs0])with⟨h1,h2⟩ |h1
  ·simp only[RepT0,h1,h2]at h⊢;exact h
  ·refine⟨h.1,h.2.1, ?_⟩;simp only[h1]
 |mo id=>
  rcases hid id (by simp[refsb,refs0])with⟨h1,h2⟩ |h1
  ·simp only[RepT0,h1,h2]at h⊢;exact h
  ·refine⟨h.1, ?_⟩;simp only[h1]
 |fnr f ids=>
  obtain⟨caps,h1,h2,h3⟩:=h
  refine⟨caps,h1,h2,fun j hj=> ?_⟩
  have hm:ids.getD j 0∈refs0 (.fnr f ids):=by
   simp only[refs0,zq1,zq4 hj,Option.getD_some]
   exact List.getElem_mem hj
  rcases hid _ hm with⟨h4,h5⟩ |h4
  ·rw[h4,h5];exact h3 j hj
  ·rw[h4];trivial
 |yl id=>
  rcases hid id (by simp[refs0])with⟨h1,h2⟩ |h1
  ·simp only[RepT0,h1,h2]at h⊢;exact h
  ·refine⟨h.1, ?_⟩;simp only[h1]
 |ela b i off=>exact⟨h.1,ElaAt.monoX h.2 hok hs (fun id hi=>hid id hi)⟩
 |elaP b i lo n j=>exact⟨h.1,h.2.1,ElaAt.monoX h.2.2 hok hs (fun id hi=>hid id hi)⟩
 |agg _=>exact h.elim
 |tup _=>exact h.elim
 |ov _ _ _=>exact h.elim
 |pv _=>exact h.elim
 |mpv _ _=>exact h.elim
 |_=>simp only[RepT0]at h⊢;exact RepV.mono h hok hs
theorem RepT1.monoX {v:Value} {d:D} (h:RepT1 C os G w v d) (hok:∀ b,okB C os G w b→okB (cx C X' w0' M') os' G' w' b) (hs:Same (okB C os G w) w w')
  (hid:∀ id,id∈refs1 d→(oAt os' id=oAt os id∧G' id=G id)∨oAt os' id= .no):RepT1 (cx C X' w0' M') os' G' w' v d:=by
 cases d with
 |agg ds=>
  obtain⟨cs,h1,h2,h3⟩:=h
  exact⟨cs,h1,h2,fun j hj=>(h3 j hj).monoX hok hs fun id hi=>hid id (List.mem_flatMap.2 ⟨_,mem_getD hj,hi⟩)⟩
 |_=>simp only[RepT1]at h⊢;exact RepT0.monoX h hok hs hid
theorem RepT.monoX {v:Value} {d:D} (h:RepT C os G w v d) (hok:∀ b,okB C os G w b→okB (cx C X' w0' M') os' G' w' b) (hs:Same (okB C os G w) w w')
  (hid:∀ id,id∈refsD d→(oAt os' id=oAt os id∧G' id=G id)∨oAt os' id= .no):RepT (cx C X' w0' M') os' G' w' v d:=by
 cases d with
 |tup ds=>
  obtain⟨cs,h1,h2,h3⟩:=h
  exact⟨cs,h1,h2,fun j hj=>(h3 j hj).monoX hok hs fun id hi=>hid id (List.mem_flatMap.2 ⟨_,mem_getD hj,hi⟩)⟩
 |_=>simp only[RepT]at h⊢;exact RepT1.monoX h hok hs hid
theorem ObjRel.monoX {os os':List Obj} {G G':Gh} {w w':World} {id:Nat} {o:Obj} (h:ObjRel C os G w id o)
  (hok:∀ b,okB C os G w b→okB (cx C X' w0' M') os' G' w' b) (hs:Same (okB C os G w) w w')
  (hid:∀ i,i∈refsO o→(oAt os' i=oAt os i∧G' i=G i)∨oAt os' i= .no) (hG:G' id=G id)
  (hb:live o=true→∀ b,(G id).2=some b→w'.heap[b]? =w.heap[b]?):ObjRel (cx C X' w0' M') os' G' w' id o:=by
 cases o with
 |dead=>trivial
 |gone=>trivial
 |arr e nb els=>
  obtain⟨k,xs,h1,⟨h2,h3⟩,h4,h5⟩:=h
  refine⟨k,xs,h1,⟨h2, ?_⟩,h4,fun i j hi hj=>(h5 i j hi hj).mono hok hs⟩
  rw[hG]
  rcases h3 with h3 |⟨hn,g,cap,cur,t,e1,e2,e3,r⟩
  ·exact .inl h3
  ·refine .inr ⟨hn,g,cap,cur,t,e1,e2, ?_,r⟩
   rw[hb rfl g e1];exact e3
 |fro e nb els=>simp only[ObjRel]at h⊢;rw[hG];exact h.mono hok hs
 |var cs=>
  obtain⟨g,cells,t,h1,h2,h3,h4⟩:=h
  refine⟨g,cells,t,by rw[hG];exact h1, ?_,h3,fun j hj=>⟨(h4 j hj).1.monoX hok hs fun i hi=>hid i (List.mem_flatMap.2 ⟨_,mem_getD hj,hi⟩),(h4 j hj).2⟩⟩
  rw[hb rfl g (by rw[h1])];exact h2
 |frv cs=>simp only[ObjRel]at h⊢;rw[hG];exact h.mono hok hs
 |mp k e ks vs=>
  obtain⟨g,es,clock,h1,h2,h3,h4,h5,h6,h7,h8⟩:=h
  exact⟨g,es,clock,by rw[hG];exact h1,by rw[hb rfl g (by rw[h1])];exact h2,h3,h4,h5,h6,fun i hi=>⟨(h7 i hi).1.mono hok hs,(h7 i hi).2.mono hok hs⟩,h8⟩
end
section
variable {C:Cx} {tm:Array Value} {st:St} {G:Gh} {w w':World}
theorem Rel.apart (h:Rel C tm st G w) (hsame:∀ b,b<w.heap.size→w'.heap[b]? =w.heap[b]?) (hsz:w.heap.size≤w'.heap.size) (Y:Nat→Prop) (hY:∀ b,Y b→w.heap.size≤b∧b<w'.heap.size):
  Rel (cx C (fun b=>C.X b∨Y b) w' (LB st.os G)) tm st G w':=by
 have hok:∀ b,okB C st.os G w b→okB (cx C (fun b=>C.X b∨Y b) w' (LB st.os G)) st.os G w' b:=fun b ⟨h1,h2,h3⟩=>⟨by omega,h2,by
  rintro (h4 |h4)
  ·exact h3 h4
  ·have:=(hY b h4).1;omega⟩
 have hS:Same (okB C st.os G w) w w':=fun b hb=>hsame b hb.1
 exact {
  tsz:=h.tsz
  ts:=fun j d hj=>(h.ts j d hj).monoX hok hS fun i _=> .inl ⟨rfl,rfl⟩
  os:=fun j o hj=>(h.os j o hj).monoX hok hS (fun i _=> .inl ⟨rfl,rfl⟩) rfl fun hl b hb=>hsame b (h.inX b ⟨j,o,hj,hl,hb⟩).2.1
  inj:=h.inj
  inX:=fun b hl=>by
   have h0:=h.inX b hl
   refine⟨?_,by omega,fun _=>hl⟩
   rintro (h4 |h4)
   ·exact h0.1 h4
   ·have:=(hY b h4).1;omega
  rT:=h.rT
  rO:=h.rO
  tape:=rfl
  osw:=rfl
  out:=rfl
  size:=Nat.le_refl _
  frame:=fun _ _ _=>rfl
  xw:=fun b hb=>by
   rcases hb with hb |hb
   ·exact⟨by have:=(h.xw b hb).1;have:=h.size;show b<w'.heap.size;omega,fun hl=>(h.inX b hl).1 hb⟩
   ·exact⟨(hY b hb).2,fun hl=>by have:=(h.inX b hl).2.1;have:=(hY b hb).1;omega⟩}
theorem Rel.back {X' M':Nat→Prop} {w0':World} (h:Rel (cx C X' w0' M') tm st G w) (hX:∀ b,C.X b→X' b) (hin:∀ b,LB st.os G b→b<C.w0.heap.size→C.M0 b) (ht:w.tape=C.w0.tape) (ho:w.os=C.w0.os) (hu:w.output=C.w0.output) (hsz:C.w0.heap.size≤w.heap.size)
  (hfr:∀ b,b<C.w0.heap.size→ ¬C.M0 b→w.heap[b]? =C.w0.heap[b]?) (hxw:∀ b,C.X b→b<C.w0.heap.size∧ ¬C.M0 b):Rel C tm st G w:=by
 have hok:∀ b,okB (cx C X' w0' M') st.os G w b→okB (cx (cx C X' w0' M') C.X C.w0 C.M0) st.os G w b:=fun b ⟨h1,h2,h3⟩=>⟨h1,h2,fun h4=>h3 (hX b h4)⟩
 exact {
  tsz:=h.tsz
  ts:=fun j d hj=>(h.ts j d hj).monoX (X':=C.X) (w0':=C.w0) (M':=C.M0) hok (fun _ _=>rfl) fun i _=> .inl ⟨rfl,rfl⟩
  os:=fun j o hj=>(h.os j o hj).monoX (X':=C.X) (w0':=C.w0) (M':=C.M0) hok (fun _ _=>rfl) (fun i _=> .inl ⟨rfl,rfl⟩) rfl fun _ _ _=>rfl
  inj:=h.inj
  inX:=fun b hl=>⟨fun h4=>(h.inX b hl).1 (hX b h4),(h.inX b hl).2.1,hin b hl⟩
  rT:=h.rT
  rO:=h.rO
  tape:=ht
  osw:=ho
  out:=hu
  size:=hsz
  frame:=hfr
  xw:=hxw}
end
end
section
open Go Go.RowKit
def Env.on (E:Env) (e:TypeId) (f:List D→Option (List D)):Env:={E with yld:=some (e,f)}
theorem Ok.on {P:Program} {E:Env} (hK:Ok P E) (e:TypeId) (f:List D→Option (List D)):Ok P (E.on e f):=⟨hK.T,hK.S,⟨hK.W.S,hK.W.B⟩,hK.B,hK.mx⟩
theorem rf_range {P:Program} {E:Env} (hK:Ok P E) (hyn:E.yld=none) {f:RfFun} {k:Vk} (hk:E.ty f.e=some k) (hI:chkFunI P E.ty f.gi f.fi f.e=true) (kk:Nat) {ca cb:Code} (hn4:4≤f.bd.nobj) (hpo:f.bd.p≠f.bd.o) (hpl:f.bd.p<f.bd.nt) (hnt:f.bd.nt=f.nt)
  (hca:chkCode P E.ty f.bd.nobj [1] ca f.bd.assign=true) (hcb:chkCode P E.ty f.bd.nobj [1] cb f.bd.body=true) {C:Cx} (hCt:E.ty=C.ty) {a:Act} {st:St} {G:Gh} {w:World} (h:Rel C a.tmps st G w) (hT:st.ts.length=f.nt) (hlo:f.bd.o<f.nt)
  {rs:List D} (hf:rfGo f E kk st=some rs) {id:Nat} {Q:Exit→Act→World→Prop}
  (hQ:∀ (st2:St) (G2:Gh) (w4:World) (Dk Lk:Nat),codeK E kk f.post st2 (rfEnd f)=some rs→w.heap.size≤Dk→w.heap.size≤Lk→w4.heap[Dk]? =some (.deferred (some []))→
   Rel (cx C (fun b=>C.X b∨(b=Dk∨b=Lk)) w4 (LB st2.os G2)) a.tmps st2 G2 w4→st2.os.length=st.os.length→st2.ts=st.ts→(∀ i,isDead (st.os.getD i .gone)=false→G2 i=G i∧isDead (st2.os.getD i .gone)=false)→
   (∀ b,LB st2.os G2 b→b<w.heap.size→LB st.os G b)→(∀ b,b<w.heap.size→ ¬LB st.os G b→w4.heap[b]? =w.heap[b]?)→w4.tape=w.tape→w4.os=w.os→w4.output=w.output→w.heap.size≤w4.heap.size→
   Q .normal {a with defers:={target:= .collected Dk,args:= #[]}::a.defers} w4):
  (Code.block id (.rangeFunc (.tmp f.fo) #[f.bd.p] ca cb)).wpIn (wd none) 0 P Q a w:=by
 unfold rfGo at hf
 split at hf
 case h_2=>cases hf
 rename_i g caps oid hfo hbo
 split at hf
 case h_2=>cases hf
 rename_i c hg hos hsite
 simp only[decide_eq_true_eq]at hg
 subst hg
 split at hf
 case h_2=>cases hf
 rename_i nb els ws0 hri
 split at hf
 case h_2=>cases hf
 rename_i e' nb' els' hit
 have tsAt:∀ {n:Nat} {d:D},st.ts.getD n .undef=d→d≠ .undef→st.ts[n]? =some d:=by
  intro n d h1 h2
  rw[zq1]at h1
  cases e1:st.ts[n]? with
  |none=>rw[e1]at h1;exact absurd h1.symm h2
  |some x=>rw[e1]at h1;simpa using h1
 have t1:=tsAt hfo (by simp)
 have t2:=tsAt hbo (by simp)
 have rf:=h.ts _ _ t1
 have rf0:RepV C.ty w (okB C st.os G w) (a.tmps.getD f.fo undef) (.fn f.gi caps):=rf
 obtain⟨lb,elb,hlb,hcap⟩:∃ lb:Array Value,a.tmps.getD f.fo undef= .func (.func f.gi) #[] lb∧lb.size=caps.length∧∀ j,j<caps.length→RepV C.ty w (okB C st.os G w) (lb.getD j undef) (caps.getD j .undef):=by
  generalize a.tmps.getD f.fo undef=vv at rf0
  cases rf0 with
  |fn _ cp _ hs hrep=>exact⟨cp,rfl,hs,hrep⟩
 have hVo':st.os[oid]? =some (.var [c]):=getW_of hos (by simp)
 obtain⟨gO,cellsO,tO,qo1,qo2,qo3,qo4⟩:=h.os oid _ hVo'
 have qo5:=one_cell (by simpa using qo3)
 have sho:oAt st.os oid= .var 1:=by rw[oAt_of hVo'];rfl
 have rp:=h.ts _ _ t2
 have hptr:a.tmps.getD f.bd.o undef= .pointer (some ⟨gO,0,none⟩):=by
  have rp0:RepT0 C st.os G w (a.tmps.getD f.bd.o undef) (.ptr oid 0):=rp
  simp only[RepT0,sho]at rp0
  obtain⟨_,g',p1,p2⟩:=rp0
  rw[qo1]at p1
  cases p1
  exact p2
 have rO:=(qo4 0 (by simp)).1
 simp only[List.getD_cons_zero]at rO
 rw[qo5]at qo2
 generalize cellsO.getD 0 undef=slv at qo2 rO
 rw[hCt]at hk
 obtain⟨blk,hrow1,hblk⟩:=rowIn_spec (a:=a) h (fun id o h1 h2=>getW_of h1 h2) hk rO hri
 have lbO:LB st.os G gO:=⟨oid,_,hVo',rfl,by rw[qo1]⟩
 have lbB:∀ b,blk=some b→LB st.os G b∧b≠gO:=by
  intro b hb
  rcases hblk with⟨_,rfl⟩ |⟨id,n,rfl,_,hid,rfl⟩
  ·cases hb
  ·refine⟨⟨id,_,hid,rfl,hb⟩,fun e1=> ?_⟩
   subst e1
   have:=h.inj id oid _ _ b hid hVo' rfl rfl hb (by rw[qo1])
   subst this
   rw[hid]at hVo';cases hVo'
 have hsd:st.os[f.site]? =some .dead:=by
  rw[zq1]at hsite
  cases e1:st.os[f.site]? with
  |none=>rw[e1]at hsite;cases hsite
  |some x=>rw[e1]at hsite;simp at hsite;rw[hsite]
 refine wpIn_block (wpIn_rangeFunc ?_)
 intro fn hfn
 obtain⟨rc,hrc⟩:∃ rc:Loop,rc={state:= .ready,pending:=none,fn,tmps:=a.tmps,params:= #[f.bd.p],assign:=ca,body:=cb,defers:=w.heap.size}:=⟨_,rfl⟩
 obtain⟨W1,hW1⟩:∃ W1,(w.alloc (.deferred (some []))).alloc (.loop rc)=W1:=⟨_,rfl⟩
 have hsz1:W1.heap.size=w.heap.size+2:=by rw[←hW1];simp
 have hL1:W1.heap[w.heap.size+1]? =some (.loop rc):=by
  rw[←hW1];have:=World.alloc_heap_new (w.alloc (.deferred (some []))) (.loop rc);rwa [World.size_alloc]at this
 have hD1:W1.heap[w.heap.size]? =some (.deferred (some [])):=by
  rw[←hW1];exact (Below.heap_alloc _ _ _ (by simp)).trans (World.alloc_heap_new w _)
 have hlow:∀ b,b<w.heap.size→W1.heap[b]? =w.heap[b]? :=fun b hb=>by
  rw[←hW1];exact (Below.heap_alloc _ _ _ (by simp;omega)).trans (Below.heap_alloc _ _ _ hb)
 refine⟨w.heap.size+1,[{target:= .collected w.heap.size,args:= #[]}],W1,{target:= .fn (.func f.gi) lb,args:= #[.func (.yield (w.heap.size+1)) #[] #[]]},W1,f.gi,
  #[.func (.yield (w.heap.size+1)) #[] #[]]++lb,W1, ?_, ?_,fun _ _=>trivial, ?_,fun h=>(by simp[wd]at h), ?_⟩
 ·rw[←hW1,hrc];exact run_enterLoop_outer _ _ _ _ _
 ·have hev:a.eval (.tmp f.fo)= .func (.func f.gi) #[] lb:=elb
  simp only[resolve,hev]
  simp[go_sem]
 ·have hI':=hI
  unfold chkFunI at hI'
  split at hI'
  case h_2=>cases hI'
  rename_i fn' hfn'
  split at hI'
  case h_2=>cases hI'
  rename_i c' hb'
  simp only[zq3,Bool.not_eq_true']at hI'
  have b3:fn'.body.isNone=false:=by rw[hb'];rfl
  simp only[invoke,callFunc,Sem.run_bind,Sem.run_pure,Result.andThen_ok,run_program,hfn',hI'.1,b3,Bool.false_eq_true,if_false]
 have rel1:=h.apart (w':=W1) hlow (by omega) (fun b=>b=w.heap.size∨b=w.heap.size+1) (fun b hb=>by rcases hb with rfl |rfl<;>omega)
 obtain⟨X1,hX1⟩:∃ X1:Nat→Prop,X1=fun b=>(C.X b∨(b=w.heap.size∨b=w.heap.size+1))∨(LB st.os G b∧b≠gO∧blk≠some b):=⟨_,rfl⟩
 have ltO:=(h.inX gO lbO).2.1
 have up:∀ b,okB C st.os G w b→b<W1.heap.size∧ ¬X1 b∧b≠gO∧blk≠some b:=by
  rintro b ⟨p1,p2,p3⟩
  refine⟨by omega, ?_, ?_, ?_⟩
  ·rw[hX1]
   rintro ((h1 |h1 |h1) |h1)
   ·exact p3 h1
   ·omega
   ·omega
   ·exact p2 h1.1
  ·rintro rfl;exact p2 lbO
  ·intro hb;exact p2 (lbB b hb).1
 have xo: ¬X1 gO:=by
  rw[hX1]
  rintro ((h1 |h1 |h1) |h1)
  ·exact (h.inX gO lbO).1 h1
  ·omega
  ·omega
  ·exact h1.2.1 rfl
 have bl:∀ b,blk=some b→b≠gO∧ ¬X1 b∧b<W1.heap.size:=fun b hb=>by
  have h2:=h.inX b (lbB b hb).1
  refine⟨(lbB b hb).2, ?_,by omega⟩
  rw[hX1]
  rintro ((h1 |h1 |h1) |h1)
  ·exact h2.1 h1
  ·omega
  ·omega
  ·exact h1.2.2 hb
 have xl:∀ b,X1 b→b<W1.heap.size:=by
  rw[hX1]
  rintro b ((h1 |h1 |h1) |h1)
  ·have:=(h.xw b h1).1;have:=h.size;omega
  ·omega
  ·omega
  ·have:=(h.inX b h1.1).2.1;omega
 have row1:RowR C.ty W1 (fun b=>b<W1.heap.size∧ ¬X1 b∧b≠gO∧blk≠some b) k slv blk els nb:=
  (hrow1.world (w':=W1) (fun q hq=>hlow q hq.1) (fun q hq=>hlow q (h.inX q (lbB q hq).1).2.1)).mono up
 have hkE:E.ty f.e=some k:=by rw[hCt];exact hk
 have hY:YOk ⟨(E.on f.e (dround f.bd f.e E kk)).ty,X1,W1,fun b=>b=gO∨blk=some b,(w.heap.size+1,.pointer (some ⟨gO,0,none⟩))⟩ P (E.on f.e (dround f.bd f.e E kk)):=by
  intro e2 ff hff
  simp only[Env.on,zq5,Prod.mk.injEq]at hff
  obtain⟨rfl,rfl⟩:=hff
  refine⟨rc,k,hL1,by rw[hX1];exact .inl (.inr (.inr rfl)),by rw[hrc];rfl,hkE,fun x nb els rs hfx w2 v slv O blk X hy pre=> ?_⟩
  simp only[Value.pointer.injEq,zq5,Addr.mk.injEq,and_true]at hy
  subst hy
  exact round_ok hK hyn hn4 hpo hpl hkE hca hcb kk hfx pre (by rw[hrc]) (by rw[hrc];show a.tmps.size=_;rw[h.tsz,hT,hnt]) (by rw[hrc];exact hptr) (by rw[hrc]) (by rw[hrc]) (by rw[hrc]) (by rw[hrc])
 have core:=iter_ok (hK.on f.e (dround f.bd f.e E kk)) hkE hI kk hit hY xo bl xl ⟨tO,by rw[hlow gO ltO];exact qo2⟩ (by show RowR E.ty _ _ _ _ _ _ _;rw[hCt];exact row1) hlb (fun j hj=>by
  show RepV E.ty _ _ _ _
  rw[hCt]
  exact (hcap j hj).mono up (fun b hb=>hlow b hb.1))
 refine callsIn_wd.2 (core.mono fun ee w2 hR=> ?_)
 cases ee with
 |panicked _=>exact hR.elim
 |outgrown=>exact hR.elim
 |returned r=>
 obtain⟨nb2,els2,slv',blk',post⟩:=hR
 have e3:=post.rs
 simp only[List.cons.injEq,D.ov.injEq,and_true]at e3
 obtain⟨_,rfl,rfl⟩:=e3
 have fr2:∀ b,b<W1.heap.size→w.heap.size≤b→w2.heap[b]? =W1.heap[b]? :=fun b h1 h2=>post.frame b h1 (by omega) (fun h3=>by have:=(h.inX b (lbB b h3).1).2.1;omega)
 have hL2:w2.heap[w.heap.size+1]? =some (.loop rc):=(fr2 _ (by omega) (by omega)).trans hL1
 have hD2:w2.heap[w.heap.size]? =some (.deferred (some [])):=(fr2 _ (by omega) (by omega)).trans hD1
 have hend:=run_endLoop (P:=P) hL2 (by rw[hrc];simp)
 have hp:rc.pending=none:=by rw[hrc]
 generalize hw4:w2.putObj (w.heap.size+1) (.loop {rc with state:= .exhausted})=w4 at hend
 rw[hp]at hend
 refine⟨none,w4,hend, ?_⟩
 have hsz4:w4.heap.size=w2.heap.size:=by rw[←hw4];simp
 have h24:∀ q,q≠w.heap.size+1→w4.heap[q]? =w2.heap[q]? :=fun q hq=>by rw[←hw4];exact World.putObj_heap_other hq
 have post2:PostY C.ty f.e [.ov f.e nb' els'] W1 w2 gO blk k (fun b=>(C.X b∨(b=w.heap.size∨b=w.heap.size+1))∨(LB st.os G b∧b≠gO∧blk≠some b)) nb' els' slv' blk':=by
  have:PostY E.ty f.e [.ov e' nb' els'] W1 w2 gO blk k X1 nb' els' slv' blk':=post
  rw[hCt,hX1]at this
  exact {this with rs:=rfl}
 obtain⟨G2,rel2,g2⟩:=turn_row rel1 (show Cx.ty _ f.e=some k from hk) hVo' qo1 hblk hsd post2
 have rel4:=rel2.turn (w':=w4) (fun b hb hx=>h24 b fun e1=>hx (.inr (.inr e1))) (by omega)
 have s2:W1.heap.size≤w2.heap.size:=post2.size
 refine hQ _ G2 w4 w.heap.size (w.heap.size+1) hf (Nat.le_refl _) (by omega) (by rw[h24 _ (by omega)];exact hD2) rel4 (wrL_len _ _) rfl (fun i hi=>⟨g2 i ?_, ?_⟩) (fun b hb hlt=> ?_) (fun b hb hn=> ?_) ?_ ?_ ?_ (by omega)
 ·rintro rfl
  rw[zq1,hsd]at hi
  cases hi
 ·refine wrL_alive (fun p hp=> ?_) hi
  rcases List.mem_append.1 hp with hp |hp
  ·rcases hblk with⟨rfl,_⟩ |⟨id,n,_,rfl,_,_⟩
   ·cases hp
   ·simp only[List.mem_cons,List.not_mem_nil,or_false]at hp
    subst hp;rfl
  ·simp only[List.mem_cons,List.not_mem_nil,or_false]at hp
   rcases hp with rfl |rfl<;>rfl
 ·exact (rel2.inX b hb).2.2 (show b<W1.heap.size by omega)
 ·rw[h24 b (by omega)]
  have h5:w2.heap[b]? =W1.heap[b]? :=rel2.frame b (show b<W1.heap.size by omega) hn
  rw[h5,hlow b hb]
 ·rw[←hw4]
  show w2.tape=w.tape
  rw[post2.tape,←hW1];rfl
 ·rw[←hw4]
  show w2.os=w.os
  rw[post2.os,←hW1];rfl
 ·rw[←hw4]
  show w2.output=w.output
  rw[post2.out,←hW1];rfl
end
section
theorem rf_pre {P:Program} {E:Env} (hK:Ok P E) (hyn:E.yld=none) {f:RfFun} {k:Vk} (hk:E.ty f.e=some k) (hI:chkFunI P E.ty f.gi f.fi f.e=true) (kk:Nat) (hn4:4≤f.bd.nobj) (hpo:f.bd.p≠f.bd.o) (hpl:f.bd.p<f.nt) (hnt:f.bd.nt=f.nt) (hlo:f.bd.o<f.nt)
  {C:Cx} (hCt:E.ty=C.ty) {S:List Nat} {G0:Gh} {fn:Func} {R:Ending→World→Prop} {rs:List D}
  (fin:∀ (tm:Array Value) (st':St) (G':Gh) (w':World),Rel C tm st' G' w'→(∀ i,i∈S→G' i=G0 i)→finish f.d st'=some rs→∃ v,(results fn tm).run P w'= .ok v w'∧R (.returned v) w'):
  ∀ (ds:List DCode) (c:Code),chkRfC P E.ty S f c ds=true→∀ (st:St) (a:Act) (w:World) (G:Gh),rfPre f E kk ds st=some rs→Rel C a.tmps st G w→st.os.length=f.nobj→st.ts.length=f.nt→
   (∀ i,i∈S→G i=G0 i∧isDead (st.os.getD i .gone)=false)→a.defers=[]→c.wpIn (wd none) 0 P (bodyPostM (wd none) 0 P fn R) a w:=by
 have noy:∀ (C:Cx),YOk C P E:=fun C e f hf=>by rw[hyn]at hf;cases hf
 intro ds
 induction ds with
 |cons d ds ih=>
  intro c hc st a w G hf h hN hT hG hd
  cases c with
  |seq x y=>
   simp only[chkRfC,zq3]at hc
   simp only[rfPre]at hf
   refine wpIn_seq (wpIn_mono (code_ok (ro:=none) hK x d S hc.1 (noy C) hCt kk st _ rs a w G hf h hN (fun i hi=>(hG i hi).2)) fun e a1 w1 ho=> ?_)
   obtain⟨ex,st1,G1,o1⟩:=ho
   have hex:=o1.ex
   have hk1:=o1.k
   cases ex with
   |norm=>
    cases e<;>first |exact hex.elim |skip
    exact ih y hc.2 st1 a1 w1 G1 hk1 o1.rel (o1.ol.trans hN) (o1.tl.trans hT) (fun i hi=>⟨(o1.keep i hi).1.trans (hG i hi).1,(o1.keep i hi).2⟩) (o1.df.trans hd)
   |ret=>
    cases e<;>first |exact hex.elim |skip
    obtain⟨v,v1,v2⟩:=fin a1.tmps st1 G1 w1 o1.rel (fun i hi=>(o1.keep i hi).1.trans (hG i hi).1) hk1
    show LeavesInM (wd none) 0 P fn a1.tmps R a1.defers .returning w1
    rw[o1.df,hd]
    exact⟨v,v1,v2⟩
   |exit id=>cases hk1
  |_=>simp[chkRfC]at hc
 |nil=>
  intro c hc st a w G hf h hN hT hG hd
  unfold chkRfC at hc
  split at hc
  ·rename_i heq
   cases heq
  ·rename_i r id n ps as body y _
   simp only[zq3,beq_iff_eq]at hc
   obtain⟨c1,rfl,rfl,c4,c5,c6⟩:=hc
   simp only[rfPre]at hf
   refine wpIn_seq (wpIn_seq (wpIn_mono (code_ok (ro:=none) hK r f.mid S c1 (noy C) hCt kk st _ rs a w G hf h hN (fun i hi=>(hG i hi).2)) fun e a1 w1 ho=> ?_))
   obtain⟨ex,st1,G1,o1⟩:=ho
   have hex:=o1.ex
   have hk1:=o1.k
   cases ex with
   |exit id=>cases hk1
   |ret=>cases hk1
   |norm=>
   cases e<;>first |exact hex.elim |skip
   refine rf_range hK hyn hk hI kk hn4 hpo (by omega) hnt c4 c5 hCt o1.rel (o1.tl.trans hT) hlo hk1 (fun st2 G2 w4 Dk Lk hpost hDk hLk hD4 rel4 hos hts hG2 hlb hfr ht hosw hu hsz=> ?_)
   refine wpIn_mono (code_ok (ro:=none) hK y f.post S c6 (C:=cx C (fun b=>C.X b∨(b=Dk∨b=Lk)) w4 (LB st2.os G2)) (noy _) hCt kk st2 _ rs {a1 with defers:={target:= .collected Dk,args:= #[]}::a1.defers} w4 G2 hpost rel4 (hos.trans (o1.ol.trans hN)) (fun i hi=>(hG2 i (o1.keep i hi).2).2)) fun e2 a3 w5 ho3=> ?_
   obtain⟨ex2,st3,G3,o3⟩:=ho3
   have hex2:=o3.ex
   have hk3:=o3.k
   have s0:C.w0.heap.size≤w1.heap.size:=o1.rel.size
   have xd:=o3.rel.xw Dk (.inr (.inl rfl))
   have hD5:w5.heap[Dk]? =some (.deferred (some [])):=(o3.rel.frame Dk xd.1 xd.2).trans hD4
   have all:finish f.d st3=some rs→LeavesInM (wd none) 0 P fn a3.tmps R a3.defers .returning w5:=by
    intro hfin
    obtain⟨w6,hw6⟩:∃ w6,w5.putObj Dk (.deferred none)=w6:=⟨_,rfl⟩
    have hsz6:w6.heap.size=w5.heap.size:=by rw[←hw6];simp
    have h56:∀ q,q≠Dk→w6.heap[q]? =w5.heap[q]? :=fun q hq=>by rw[←hw6];exact World.putObj_heap_other hq
    have rel6:=o3.rel.turn (w':=w6) (fun b hb hx=>h56 b fun e1=>hx (.inr (.inl e1))) (by omega)
    have s5:w4.heap.size≤w5.heap.size:=o3.rel.size
    have lb3:∀ b,LB st3.os G3 b→b<w1.heap.size→LB st1.os G1 b:=fun b hb hlt=>hlb b ((o3.rel.inX b hb).2.2 (show b<w4.heap.size by omega)) hlt
    have relC:Rel C a3.tmps st3 G3 w6:=by
     refine Rel.back (C:=C) rel6 (fun b hb=> .inl hb) (fun b hb hlt=>(o1.rel.inX b (lb3 b hb (by omega))).2.2 hlt) ?_ ?_ ?_ (by omega) (fun b hb hM=> ?_) o1.rel.xw
     ·have t5:w5.tape=w4.tape:=o3.rel.tape
      rw[←hw6]
      exact (t5.trans ht).trans o1.rel.tape
     ·have t5:w5.os=w4.os:=o3.rel.osw
      rw[←hw6]
      exact (t5.trans hosw).trans o1.rel.osw
     ·have t5:w5.output=w4.output:=o3.rel.out
      rw[←hw6]
      exact (t5.trans hu).trans o1.rel.out
     ·have n1: ¬LB st1.os G1 b:=fun hl=>hM ((o1.rel.inX b hl).2.2 hb)
      have n2: ¬LB st2.os G2 b:=fun hl=>n1 (hlb b hl (by omega))
      have f5:w5.heap[b]? =w4.heap[b]? :=o3.rel.frame b (show b<w4.heap.size by omega) n2
      rw[h56 b (by omega),f5,hfr b (by omega) n1]
      exact o1.rel.frame b hb hM
    obtain⟨v,v1,v2⟩:=fin a3.tmps st3 G3 w6 relC (fun i hi=>((o3.keep i hi).1.trans (hG2 i (o1.keep i hi).2).1).trans ((o1.keep i hi).1.trans (hG i hi).1)) hfin
    have hdf:a3.defers=[{target:= .collected Dk,args:= #[]}]:=by
     have:=o3.df
     rw[this]
     show _::a1.defers=_
     rw[o1.df,hd]
    rw[hdf]
    exact⟨by simp,.inl ⟨Dk,w6,rfl,by rw[←hw6];exact run_takeDeferred hD5,v,v1,v2⟩⟩
   cases ex2 with
   |exit id=>cases hk3
   |norm=>
    cases e2<;>first |exact hex2.elim |exact all hk3
   |ret=>
    cases e2<;>first |exact hex2.elim |exact all hk3
  ·cases hc
theorem rf_ok {P:Program} {E:Env} (hK:Ok P E) (hyn:E.yld=none) {g:FuncId} {f:RfFun} (hc:chkFunRf P E.ty g f=true) (kk:Nat):SoundAt P E.ty g ⟨f.am,f.rm⟩ (drf f E kk):=by
 intro l rs hrs w vs blks X pre
 unfold chkFunRf at hc
 split at hc
 case h_2=>cases hc
 rename_i fn hf
 split at hc
 case h_2=>cases hc
 rename_i c hb
 simp only[zq3,beq_iff_eq,Nat.ble_eq,Nat.blt_eq,Bool.not_eq_true',beq_eq_false_iff_ne]at hc
 obtain⟨c1,c2,c3,c4,c5,c6,c7,c8,c9,c10,c11,c12,c13,c14,c15⟩:=hc
 obtain⟨k,hk⟩:=Option.isSome_iff_exists.1 c12
 unfold drf at hrs
 split at hrs
 case h_2=>cases hrs
 rename_i st he
 unfold enter at he
 split at he
 case h_2=>cases he
 rename_i dl ws hen
 simp only[zq5]at he
 obtain⟨rel,halive⟩:=entry_rel (nt:=f.nt) pre hen c3
 have hN:st.os.length=f.nobj:=by rw[←he];show (wrL _ _).length=_;rw[wrL_len,List.length_replicate];rfl
 have he':({ts:=dl++List.replicate (f.nt - dl.length) (.tup []),os:=wrL (List.replicate f.nobj .dead) ws}:St)=st:=he
 rw[he']at rel
 have hal:∀ i,i∈lentIds 0 f.am→isDead (st.os.getD i .gone)=false:=by rw[←he'];exact halive
 refine callsIn_wd.1 (callsIn_of_wp_marks (F:=wd none) (n:=0) hf hb trivial (rf_pre hK hyn hk c14 kk c8 c9 c10 c11 c13 (C:=⟨E.ty,X,w,fun b=>∃ i,blks i=some b,(0,undef)⟩) rfl (S:=lentIds 0 f.am) (G0:=fun i=>(vs.getD i undef,blks i)) ?_ f.pre c c7 st
  {tmps:=vs++Array.replicate (fn.ntmps - vs.size) undef,defers:=[]} w (fun i=>(vs.getD i undef,blks i)) hrs (by rw[c2];exact rel) hN ?_ (fun i hi=>⟨rfl,hal i hi⟩) rfl) rfl)
 ·intro tm st' G' w' hr hkeep hfin
  unfold finish at hfin
  split at hfin
  case h_2=>cases hfin
  rename_i l1 n1 fz l2 n2 hfr hfb
  split at hfin
  case h_2=>cases hfin
  rename_i hnd
  cases hfin
  obtain⟨s1,s2,s3,s4⟩:=fin_spec hfr
  obtain⟨vl,v1,v2,v3⟩:=resL_run hr fn.results.toList f.res f.rm c6 fun i m r hm hr=>by
   obtain⟨d,d1,d2⟩:=s4 i m r hm hr
   refine⟨d,d1,fun k hk=> ?_⟩
   subst hk
   exact d2.1
  obtain⟨rb,post⟩:=finish_ok hr pre hkeep hfr hfb hnd (fun i e hi=>by
   have:=all_get c5 hi
   exact this) v2 v3
  exact⟨_,results_run v1,vl,rb,rfl,post⟩
 ·have h1:=rel.tsz
  have h2:vs.size≤f.nt:=by rw[pre.sz];exact c15
  rw[←h1]
  simp
  omega
end
section
structure TabOk (P:Program) (ty:TypeId→Option Vk) (tab:FuncId→Option Entry):Prop where
 T:∀ e k,ty e=some k→szOk P e k=true∧0<k.ks.length
 mx:P.follows .mixedOrders=true
 code:∀ g f,tab g=some (.code f)→chkFun P ty g f=true
 wr:∀ g f e n,tab g=some (.wr f e n)→chkFunW P ty g f e n=true
 rf:∀ g f,tab g=some (.rf f)→chkFunRf P ty g f=true
 spec:∀ g s sf,tab g=some (.spec s sf)→SoundAt P ty g s sf
 body:∀ g s sf,tab g=some (.spec s sf)→∃ fn,P.funcs[g]? =some fn∧(fn.name== "runtime.NumGoroutine")=false∧fn.body.isNone=false∧∀ (i:Nat) (e:TypeId),s.am[i]? =some (.g e)→(ty e).isSome=true
section
variable {P:Program} {ty:TypeId→Option Vk} {tab:FuncId→Option Entry}
theorem TabOk.bodies (h:TabOk P ty tab) (call:FuncId→List D→Option (List D)):Bodies P (envOf ty tab call):=by
 intro g sg hg
 simp only[envOf,Option.map_eq_some_iff]at hg
 obtain⟨en,h1,rfl⟩:=hg
 cases en with
 |code f=>
  have hc:=h.code g f h1
  unfold chkFun at hc
  split at hc
  ·rename_i fn hf
   split at hc
   ·rename_i c hb
    simp only[zq3,beq_iff_eq,Nat.ble_eq,Bool.not_eq_true']at hc
    obtain⟨⟨⟨⟨⟨⟨c1,c2⟩,c3⟩,c4⟩,c5⟩,c6⟩,c7⟩:=hc
    refine⟨fn,hf,c1,by rw[hb];rfl,fun i e hi=> ?_⟩
    have:=all_get c4 hi
    exact this
   ·cases hc
  ·cases hc
 |wr f e n=>
  have hc:=h.wr g f e n h1
  unfold chkFunW at hc
  split at hc
  ·rename_i fn hf
   split at hc
   ·rename_i c hb
    simp only[zq3,beq_iff_eq,Nat.ble_eq,Bool.not_eq_true']at hc
    exact⟨fn,hf,hc.1,by rw[hb];rfl,fun i e hi=>by simp[Entry.sig]at hi⟩
   ·cases hc
  ·cases hc
 |rf f=>
  have hc:=h.rf g f h1
  unfold chkFunRf at hc
  split at hc
  ·rename_i fn hf
   split at hc
   ·rename_i c hb
    simp only[zq3,beq_iff_eq,Nat.ble_eq,Bool.not_eq_true']at hc
    exact⟨fn,hf,hc.1,by rw[hb];rfl,fun i e hi=>by
     have:=all_get hc.2.2.2.1 hi
     exact this⟩
   ·cases hc
  ·cases hc
 |spec s sf=>exact h.body g s sf h1
theorem TabOk.wbody (h:TabOk P ty tab) (g:FuncId) (e:TypeId) (hg:(tab g).bind Entry.wty=some e):∃ fn,P.funcs[g]? =some fn∧(fn.name== "runtime.NumGoroutine")=false∧fn.body.isNone=false∧(ty e).isSome=true:=by
 simp only[Option.bind_eq_some_iff]at hg
 obtain⟨en,h1,h2⟩:=hg
 cases en with
 |code f=>cases h2
 |spec s sf=>cases h2
 |rf f=>cases h2
 |wr f e' n=>
  cases h2
  have hc:=h.wr g f e n h1
  unfold chkFunW at hc
  split at hc
  ·rename_i fn hf
   split at hc
   ·rename_i c hb
    simp only[zq3,beq_iff_eq,Nat.ble_eq,Bool.not_eq_true']at hc
    exact⟨fn,hf,hc.1,by rw[hb];rfl,hc.2.2.2.1⟩
   ·cases hc
  ·cases hc
theorem dcall_both (h:TabOk P ty tab):∀ k,SoundCall P (envOf ty tab (dcall ty tab k))∧SoundCallW P (envOf ty tab (dcall ty tab k))
 |0=>by
  refine⟨?_, ?_, ?_⟩
  ·intro g sg hg l rs hrs
   simp[envOf,dcall]at hrs
  ·intro g e hg x nb els rs hrs
   simp[envOf,dcall]at hrs
  ·intro g e hg
   exact h.wbody g e hg
 |k+1=>by
  have ih:=dcall_both h k
  have hK:Ok P (envOf ty tab (dcall ty tab k)):=⟨h.T,ih.1,ih.2,h.bodies _,h.mx⟩
  refine⟨?_, ?_,fun g e hg=>h.wbody g e hg⟩
  ·intro g sg hg
   simp only[envOf,Option.map_eq_some_iff]at hg
   obtain⟨en,h1,rfl⟩:=hg
   cases en with
   |code f=>
    have:=fun_ok hK rfl (f:=f) (h.code g f h1) k
    intro l rs hrs
    refine this l rs ?_
    simpa[envOf,dcall,h1]using hrs
   |spec s sf=>
    intro l rs hrs
    refine h.spec g s sf h1 l rs ?_
    simpa[envOf,dcall,h1]using hrs
   |rf f=>
    have:=rf_ok hK rfl (f:=f) (h.rf g f h1) k
    intro l rs hrs
    refine this l rs ?_
    simpa[envOf,dcall,h1]using hrs
   |wr f e n=>
    intro l rs hrs w vs blks X pre
    have h0:l=[]:=List.length_eq_zero_iff.1 pre.len
    subst h0
    simp[envOf,dcall,h1,dbodyW,enterW]at hrs
  ·intro g e hg
   simp only[envOf,Option.bind_eq_some_iff]at hg
   obtain⟨en,h1,h2⟩:=hg
   cases en with
   |code f=>cases h2
   |spec s sf=>cases h2
   |rf f=>cases h2
   |wr f e' n=>
    cases h2
    have:=funW_ok hK rfl (f:=f) (h.wr g f e n h1) k
    intro x nb els rs hrs
    refine this x nb els rs ?_
    simpa[envOf,dcall,h1]using hrs
theorem dcall_ok (h:TabOk P ty tab) (k:Nat):SoundCall P (envOf ty tab (dcall ty tab k)):=(dcall_both h k).1
theorem dcall_sound (h:TabOk P ty tab) (k:Nat) {g:FuncId} {en:Entry} (hg:tab g=some en):SoundAt P ty g en.sig (dcall ty tab k g):=
 dcall_ok h k g en.sig (by simp[envOf,hg])
end
end
section
def ksOf (P:Program):Nat→TypeId→Option (List Sk)
 |0,_=>none
 |n+1,t=>match P.underlying t with
  |some .bool=>some [.bool]
  |some (.int k)=>some [.int k]
  |some .string=>some [.str]
  |some (.slice e)=>some [.sl e]
  |some (.struct fs)=>fs.toList.foldl (fun acc f=>match acc,ksOf P n f.type with
    |some a,some s=>match f.offset==a.length&&P.cellsOf f.type==s.length with
          |true=>some (a++s)
          |false=>none
    |_,_=>none) (some [])
  |some (.array m e)=>match ksOf P n e with
   |some s=>match P.cellsOf e==s.length with
    |true=>some (List.replicate m s).flatten
    |false=>none
   |none=>none
  |_=>none
inductive WT (ty:TypeId→Option Vk):D→Prop
 |int (k n) (h:(Lit.int k n).wf=true):WT ty (.int k n)
 |bool (b):WT ty (.bool b)
 |str (s:ByteArray) (h:s.size≤maxLen):WT ty (.str s)
 |sl (e nb els) (hl:els.length≤maxLen) (hn:nb=true→els=[]) (hf:∀ k,ty e=some k→∀ d,d∈els→k.fits d=true) (h:∀ d,d∈els→WT ty d):WT ty (.sl e nb els)
 |agg (cs) (h:∀ d,d∈cs→WT ty d):WT ty (.agg cs)
theorem cells_get {w:World} {base:Nat} {a:Addr} {n:Nat} {cs:List Value} (h:w.cells? base a n=some cs):cs.length=n∧base≤a.block∧∀ i,i<n→w.cell? (a.add i)=cs[i]? :=by
 unfold World.cells? at h
 split at h
 ·rename_i hb
  have key:∀ (l:List Nat) (cs:List Value),l.mapM (fun i=>w.cell? (a.add i))=some cs→cs.length=l.length∧∀ (i j:Nat),l[i]? =some j→w.cell? (a.add j)=cs[i]? :=by
   intro l
   induction l with
   |nil=>intro cs h;simp at h;subst h;exact⟨rfl,fun i j h=>by simp at h⟩
   |cons x xs ih=>
    intro cs h
    simp only[List.mapM_cons,Option.bind_eq_bind,Option.pure_def]at h
    cases e1:w.cell? (a.add x)with
    |none=>simp[e1]at h
    |some v=>
     cases e2:xs.mapM (fun i=>w.cell? (a.add i))with
     |none=>simp[e1,e2]at h
     |some r=>
      simp[e1,e2]at h
      subst h
      obtain⟨h1,h2⟩:=ih r e2
      refine⟨by simp[h1],fun i j hj=> ?_⟩
      cases i with
      |zero=>simp at hj;subst hj;simpa using e1
      |succ i=>simpa using h2 i j (by simpa using hj)
  obtain⟨h1,h2⟩:=key _ _ h
  refine⟨by simpa using h1,hb,fun i hi=>h2 i i (by simp[hi])⟩
 ·cases h
end
section
def clo (ty:TypeId→Option Vk) (ks:List Sk):Prop:=∀ e,Sk.sl e∈ks→∃ k,ty e=some k∧k.ks.all Sk.data=true
def KsOk (P:Program) (ty:TypeId→Option Vk):Prop:=∀ e k,ty e=some k→k.ks.all Sk.data=true→(∃ n,ksOf P n e=some k.ks)∧isAggT P e=some k.agg∧P.cellsOf e=k.ks.length∧clo ty k.ks∧0<k.ks.length
def elOf (k:Vk) (ds:List D):D:=match k.agg with |true=> .agg ds |false=>ds.getD 0 .undef
theorem elOf_fits {k:Vk} {ds:List D} (h:fitsL k.ks ds=true) (h1:k.agg=false→k.ks.length=1):k.fits (elOf k ds)=true∧∀ j,j<k.ks.length→(elOf k ds).cell j=ds.getD j .undef:=by
 unfold elOf
 cases hk:k.agg with
 |true=>exact⟨by simp only[Vk.fits,hk];exact h,fun j hj=>rfl⟩
 |false=>
  have hl:=h1 hk
  obtain⟨s,hs⟩:∃ s,k.ks=[s]:=by
   cases e1:k.ks with
   |nil=>simp[e1]at hl
   |cons s r=>simp[e1]at hl;exact⟨s,by simp[hl]⟩
  rw[hs]at h
  obtain⟨x,rfl,hx⟩:=fitsL_one h
  refine⟨by simp only[Vk.fits,hk,hs];simpa using h,fun j hj=> ?_⟩
  have:j=0:=by omega
  subst this
  cases x<;>first |rfl |(cases s<;>simp[GD.fits]at hx)
theorem isAgg_one {P:Program} {t:TypeId} {n:Nat} {ks:List Sk} (h:ksOf P n t=some ks) (ha:isAggT P t=some false):ks.length=1:=by
 cases n with
 |zero=>simp[ksOf]at h
 |succ n=>
  simp only[ksOf]at h
  cases e:P.underlying t with
  |none=>simp[e]at h
  |some d=>
   rw[isAggT_of e]at ha
   cases d<;>simp_all [aggD]<;>(try (subst h;rfl))
def Told (ty:TypeId→Option Vk) (W:World) (ks:List Sk) (cs:List Value):Prop:=
 cs.length=ks.length∧∃ ds,fitsL ks ds=true∧(∀ j,j<ks.length→RepV ty W (fun b=>b<W.heap.size) (cs.getD j undef) (ds.getD j .undef))∧∀ d,d∈ds→WT ty d
theorem told_one {ty:TypeId→Option Vk} {W:World} {s:Sk} {v:Value} {d:D} (hf:fits s d=true) (hr:RepV ty W (fun b=>b<W.heap.size) v d) (hw:WT ty d):Told ty W [s] [v]:=
 ⟨rfl,[d],by simp[fitsL,hf],fun j hj=>by
  have:j=0:=by simpa using hj
  subst this
  exact hr,fun x hx=>by rw[List.mem_singleton.1 hx];exact hw⟩
theorem told_slice {ty:TypeId→Option Vk} {W:World} {e:TypeId} {k:Vk} (hk:ty e=some k) (h1:k.agg=false→k.ks.length=1) (hpos:0<k.ks.length) {a:Addr} {len cap:Nat} (hsp:cap≠0→a.spot=none) (hlc:len≤cap) (hcm:cap≤maxLen)
  (hel:∀ i,i<len→∃ csi,Told ty W k.ks csi∧∀ j,j<k.ks.length→W.cell? (a.add (i*k.ks.length+j))=csi[j]?):Told ty W [.sl e] [.slice (some a) len cap]:=by
 classical
 have hch:∀ i,∃ p:List Value×List D,i<len→p.1.length=k.ks.length∧fitsL k.ks p.2=true∧(∀ j,j<k.ks.length→RepV ty W (fun b=>b<W.heap.size) (p.1.getD j undef) (p.2.getD j .undef))∧(∀ j,j<k.ks.length→W.cell? (a.add (i*k.ks.length+j))=p.1[j]?)∧∀ d,d∈p.2→WT ty d:=by
  intro i
  by_cases hi:i<len
  ·obtain⟨csi,⟨t1,ds,t2,t3,t5⟩,t4⟩:=hel i hi
   exact⟨(csi,ds),fun _=>⟨t1,t2,t3,t4,t5⟩⟩
  ·exact⟨([],[]),fun h=>absurd h hi⟩
 obtain⟨p,hp⟩:=Classical.axiomOfChoice hch
 have hlen:((List.range len).map fun i=>elOf k (p i).2).length=len:=by simp
 have hget:∀ i,i<len→((List.range len).map fun i=>elOf k (p i).2).getD i .undef=elOf k (p i).2:=fun i hi=>by simp[zq1,hi]
 refine told_one (d:= .sl e false ((List.range len).map fun i=>elOf k (p i).2)) (by simp[fits]) ?_ (.sl _ _ _ (by simp;omega) (fun h=>by cases h) (fun k' hk' d hd=>by
  rw[hk]at hk'
  cases hk'
  obtain⟨i,hi,rfl⟩:=List.mem_map.1 hd
  exact (elOf_fits (hp i (by simpa using hi)).2.1 h1).1) fun d hd=>by
  obtain⟨i,hi,rfl⟩:=List.mem_map.1 hd
  obtain⟨_,q2,_,_,q5⟩:=hp i (by simpa using hi)
  unfold elOf
  cases hka:k.agg with
  |true=>exact .agg _ q5
  |false=>
   have hl:=(fitsL_spec q2).1
   have:=h1 hka
   exact q5 _ (mem_getD (by omega)))
 have:=RepV.sl (ty:=ty) (w:=W) (ok:=fun b=>b<W.heap.size) e a cap ((List.range len).map fun i=>elOf k (p i).2) k (fun i j=>(p i).1.getD j undef) hk hsp (by rw[hlen];exact hlc) (fun d hd=>by
  obtain⟨i,hi,rfl⟩:=List.mem_map.1 hd
  exact (elOf_fits (hp i (by simpa using hi)).2.1 h1).1) (fun hne=>by
  have h0:0<len:=by
   rcases Nat.eq_zero_or_pos len with h |h
   ·subst h;exact absurd rfl hne
   ·exact h
  obtain⟨q1,_,_,q4,_⟩:=hp 0 h0
  have:=q4 0 hpos
  rw[Nat.zero_mul,Nat.zero_add,zq4 (by omega)]at this
  have hb:=World.block_lt_of_cell? W (a.add 0) this
  rw[addr_add a 0 (hsp (by omega))]at hb
  exact hb) (fun i j hi hj=>by
  rw[hlen]at hi
  obtain⟨q1,_,_,q4,_⟩:=hp i hi
  have:=q4 j hj
  rw[addr_add a _ (hsp (by omega)),zq4 (by omega)]at this
  simpa[zq1,show j<(p i).1.length by omega]using this) (fun i j hi hj=>by
  rw[hlen]at hi
  obtain⟨q1,q2,q3,_,_⟩:=hp i hi
  rw[hget i hi,(elOf_fits q2 h1).2 j hj]
  exact q3 j hj)
 rw[hlen]at this
 exact this
end
section
theorem told_append {ty:TypeId→Option Vk} {W:World} {k1 k2:List Sk} {c1 c2:List Value} (h1:Told ty W k1 c1) (h2:Told ty W k2 c2):Told ty W (k1++k2) (c1++c2):=by
 obtain⟨l1,d1,f1,r1,w1⟩:=h1
 obtain⟨l2,d2,f2,r2,w2⟩:=h2
 have g1:=(fitsL_spec f1).1
 have g2:=(fitsL_spec f2).1
 refine⟨by simp[l1,l2],d1++d2, ?_,fun j hj=> ?_,fun d hd=> ?_⟩
 ·refine fitsL_of (by simp[g1,g2]) (fun j s hs=> ?_)
  rcases Nat.lt_or_ge j k1.length with h |h
  ·rw[List.getElem?_append_left h]at hs
   have:=(fitsL_spec f1).2 j s hs
   rwa [zq1,List.getElem?_append_left (by omega),←zq1]
  ·rw[List.getElem?_append_right h]at hs
   have:=(fitsL_spec f2).2 _ s hs
   rwa [zq1,List.getElem?_append_right (by omega),g1,←zq1]
 ·rw[List.length_append]at hj
  rcases Nat.lt_or_ge j k1.length with h |h
  ·have:=r1 j h
   rwa [zq1,List.getElem?_append_left (by omega),←zq1,zq1 (l:=d1++d2),List.getElem?_append_left (by omega),←zq1]
  ·have:=r2 (j - k1.length) (by omega)
   rwa [zq1,List.getElem?_append_right (by omega),l1,←zq1,zq1 (l:=d1++d2),List.getElem?_append_right (by omega),g1,←zq1]
 ·rcases List.mem_append.1 hd with h |h
  ·exact w1 d h
  ·exact w2 d h
theorem told_nil {ty:TypeId→Option Vk} {W:World}:Told ty W [] []:=⟨rfl,[],rfl,fun j hj=>by simp at hj,fun d hd=>by cases hd⟩
def ksF (P:Program) (n:Nat) (acc:Option (List Sk)) (f:Field):Option (List Sk):=
 match acc,ksOf P n f.type with
 |some a,some s=>match f.offset==a.length&&P.cellsOf f.type==s.length with
  |true=>some (a++s)
  |false=>none
 |_,_=>none
theorem ksF_some {P:Program} {n:Nat} {a a':List Sk} {f:Field} (h:ksF P n (some a) f=some a'):∃ s,ksOf P n f.type=some s∧f.offset=a.length∧P.cellsOf f.type=s.length∧a'=a++s:=by
 simp only[ksF]at h
 split at h
 ·rename_i a0 s0 h5 h6
  cases h5
  split at h
  ·rename_i hc
   cases h
   simp only[zq3,beq_iff_eq]at hc
   exact⟨s0,h6,hc.1,hc.2,rfl⟩
  ·cases h
 ·cases h
theorem struct_told {P:Program} {ty:TypeId→Option Vk} {W:World} {n:Nat} {cs:List Value}:∀ (fs:List Field) (a ks:List Sk),fs.foldl (ksF P n) (some a)=some ks→a.length≤cs.length→
  (∀ f,f∈fs→∀ s,ksOf P n f.type=some s→P.cellsOf f.type=s.length→(∀ q,q∈s→q∈ks)→Told ty W s ((cs.drop f.offset).take s.length))→Told ty W a (cs.take a.length)→∃ m,m=ks.length∧m≤cs.length∧Told ty W ks (cs.take m)
 |[],a,ks,h,hl,_,ht=>by
  simp at h
  subst h
  exact⟨_,rfl,hl,ht⟩
 |f::fs,a,ks,h,hl,hf,ht=>by
  rw[List.foldl_cons]at h
  cases e1:ksF P n (some a) f with
  |none=>rw[e1,foldl_none (ksF P n) (fun a=>rfl) fs]at h;cases h
  |some a'=>
   rw[e1]at h
   obtain⟨s,h1,h2,h3,rfl⟩:=ksF_some e1
   have pre:∀ (fs:List Field) (b k:List Sk),fs.foldl (ksF P n) (some b)=some k→∀ q,q∈b→q∈k:=by
    intro fs
    induction fs with
    |nil=>intro b k h q hq;simp at h;subst h;exact hq
    |cons g gs ih=>
     intro b k h q hq
     rw[List.foldl_cons]at h
     cases e2:ksF P n (some b) g with
     |none=>rw[e2,foldl_none (ksF P n) (fun a=>rfl) gs]at h;cases h
     |some b'=>
      rw[e2]at h
      obtain⟨s',_,_,_,rfl⟩:=ksF_some e2
      exact ih _ k h q (List.mem_append.2 (.inl hq))
   have ht2:=hf f (List.mem_cons_self ..) s h1 h3 fun q hq=>pre fs _ ks h q (List.mem_append.2 (.inr hq))
   rw[h2]at ht2
   have hlen:a.length+s.length≤cs.length:=by
    have:=ht2.1
    simp at this
    omega
   refine struct_told fs (a++s) ks h (by simpa using hlen) (fun g hg=>hf g (List.mem_cons_of_mem _ hg)) ?_
   rw[List.length_append,List.take_add]
   exact told_append ht ht2
theorem cell_spot {W:World} {a:Addr} {v:Value} (h:W.cell? a=some v):a.spot=none:=by
 unfold World.cell? at h
 split at h
 ·split at h
  ·cases h
  ·rename_i h1;simpa using h1
 ·cases h
theorem cells_spot {W:World} {base:Nat} {a:Addr} {n:Nat} {cs:List Value} (h:W.cells? base a n=some cs) (hn:0<n):a.spot=none:=by
 obtain⟨c1,_,c3⟩:=cells_get h
 have:=c3 0 hn
 rw[zq4 (by omega)]at this
 exact cell_spot (a:=a) this
theorem mapM_some {α β:Type} {f:α→Option β}:∀ {l:List α} {ys:List β},l.mapM f=some ys→∀ a,a∈l→∃ b,f a=some b
 |[],_,_,a,ha=>by cases ha
 |x::l,ys,h,a,ha=>by
  simp only[List.mapM_cons,Option.bind_eq_bind,Option.pure_def]at h
  cases e1:f x with
  |none=>simp[e1]at h
  |some b=>
   cases e2:l.mapM f with
   |none=>simp[e1,e2]at h
   |some r=>
    rcases List.mem_cons.1 ha with rfl |ha
    ·exact⟨b,e1⟩
    ·exact mapM_some e2 a ha
theorem trod_array {H:Type} {enc:TypeId×Value→H} {P:Program} {W:World} {base:Nat} {spare:Nat→Bool} {held:Bool} {fuel m:Nat} {t e:TypeId} {cs:List Value} {x:DataW H×List MemPlace} (ht:P.underlying t=some (.array m e))
  (h:DataW.trod enc P W base spare held (fuel+1) t cs=some x):cs.length=P.cellsOf t∧∀ i,i<m→∃ y,DataW.trod enc P W base spare held fuel e ((cs.drop (i*P.cellsOf e)).take (P.cellsOf e))=some y:=by
 unfold DataW.trod at h
 rw[ht]at h
 simp only at h
 split at h
 ·rename_i hl
  refine⟨hl,fun i hi=> ?_⟩
  simp only[Option.map_eq_some_iff]at h
  obtain⟨ys,hy,_⟩:=h
  exact mapM_some hy i (List.mem_range.2 hi)
 ·cases h
theorem array_told {ty:TypeId→Option Vk} {W:World} {s:List Sk} {cs:List Value} {n:Nat} (h:∀ i,i<n→Told ty W s ((cs.drop (i*s.length)).take s.length)):∀ m,m≤n→Told ty W (List.replicate m s).flatten (cs.take (m*s.length))
 |0,_=>by simpa using told_nil
 |m+1,hm=>by
  have h1:=array_told h m (by omega)
  have h2:=h m (by omega)
  rw[List.replicate_succ',List.flatten_append,List.flatten_singleton,Nat.add_mul,Nat.one_mul,List.take_add]
  exact told_append h1 h2
theorem trod_told {H:Type} {enc:TypeId×Value→H} {P:Program} {ty:TypeId→Option Vk} {W:World} {base:Nat} {spare:Nat→Bool} {held:Bool} (hty:KsOk P ty) (hsp:spare=fun _=>true):
  ∀ (fuel n:Nat) (t:TypeId) (ks:List Sk) (cs:List Value) (x:DataW H×List MemPlace),ksOf P n t=some ks→P.cellsOf t=ks.length→clo ty ks→DataW.trod enc P W base spare held fuel t cs=some x→Told ty W ks cs:=by
 intro fuel
 induction fuel with
 |zero=>intro n t ks cs x _ _ _ h;simp[DataW.trod]at h
 |succ fuel ih=>
  intro n t ks cs x hks hco hcl h
  cases n with
  |zero=>simp[ksOf]at hks
  |succ n=>
   simp only[ksOf]at hks
   cases e:P.underlying t with
   |none=>simp[e]at hks
   |some td=>
    cases td with
    |bool=>
     simp only[e,zq5]at hks
     subst hks
     obtain⟨b,rfl,_⟩:=DataW.trod_bool e h
     exact told_one (s:= .bool) rfl (.bool b) (.bool b)
    |int k=>
     simp only[e,zq5]at hks
     subst hks
     obtain⟨m,rfl,_,hw⟩:=DataW.trod_int e h
     exact told_one (s:= .int k) (by simp[fits]) (.int k m) (.int k m hw)
    |string=>
     simp only[e,zq5]at hks
     subst hks
     obtain⟨b,rfl,_,hw⟩:=DataW.trod_string e h
     exact told_one (s:= .str) rfl (.str b) (.str b hw)
    |slice el=>
     simp only[e,zq5]at hks
     subst hks
     rcases DataW.trod_slice e h with⟨rfl,_⟩ |⟨a,len,cap,elems,rest,m,hm,rfl,_,hb,hlc,hcm,hel,hi,hre,_⟩
     ·exact told_one (s:= .sl el) (by simp[fits]) (.slnil el) (.sl _ _ _ (Nat.zero_le _) (fun _=>rfl) (fun _ _ d hd=>by cases hd) fun d hd=>by cases hd)
     ·obtain⟨k,hk,hkd⟩:=hcl el (List.mem_singleton.2 rfl)
      obtain⟨⟨n',hn'⟩,hag,hce,hcl2,hpos⟩:=hty el k hk hkd
      cases hm
      have hsp:cap≠0→a.spot=none:=by
       intro hc0
       have key:∀ (o:Nat) (y:Option (DataW H×List MemPlace)),o=0→y.isSome=true→(W.cells? base (a.add (o*P.cellsOf el)) (P.cellsOf el)).bind (DataW.trod enc P W base spare held fuel el)=y→a.spot=none:=by
        intro o y ho hy h9
        subst ho
        cases hcc:W.cells? base (a.add (0*P.cellsOf el)) (P.cellsOf el)with
        |none=>rw[hcc]at h9;subst h9;cases hy
        |some csi=>
         have:=cells_spot hcc (by rw[hce];exact hpos)
         rw[Nat.zero_mul]at this
         exact this
       rcases Nat.eq_zero_or_pos len with h0 |h0
       ·obtain⟨r1,r2⟩:=hre (by rw[hsp])
        have:=r2 0 (by omega)
        exact key _ _ (by omega) (by rw[zq4 (by omega)];rfl) this
       ·exact key _ _ rfl (by rw[zq4 (by omega)];rfl) (hi 0 h0)
      refine told_slice hk (fun hka=>isAgg_one hn' (by rw[hag,hka])) hpos hsp hlc hcm (fun i hil=> ?_)
      have h1:=hi i hil
      rw[hce,zq4 (by omega)]at h1
      cases hc:W.cells? base (a.add (i*k.ks.length)) k.ks.length with
      |none=>simp[hc]at h1
      |some csi=>
       simp only[hc,Option.bind_some]at h1
       obtain⟨c1,c2,c3⟩:=cells_get hc
       refine⟨csi,ih n' el k.ks csi _ hn' hce hcl2 h1,fun j hj=> ?_⟩
       have:=c3 j hj
       rw[addr_add a _ (hsp (by omega)),addr_add _ _ rfl]at this
       rw[addr_add a _ (hsp (by omega)),←this,Nat.add_assoc]
    |struct fs=>
     simp only[e]at hks
     have hks':fs.toList.foldl (ksF P n) (some [])=some ks:=hks
     obtain⟨xs,m,hm,rfl,hcl3,hxl,hfi⟩:=DataW.trod_struct e h
     cases hm
     obtain⟨mm,h1,h2,h3⟩:=struct_told (ty:=ty) (W:=W) (cs:=cs) fs.toList [] ks hks' (Nat.zero_le _) (fun f hf s hs hcell hsub=>by
      obtain⟨i,hi,hie⟩:=List.getElem_of_mem hf
      have hi':i<fs.size:=by simpa using hi
      have hg:fs[i]? =some f:=by rw[←Array.getElem?_toList,zq4 hi,hie]
      have h4:=hfi i f hg
      rw[zq4 (by omega)]at h4
      rw[hcell]at h4
      exact ih n f.type s _ _ hs hcell (fun q hq=>hcl q (hsub _ hq)) h4) (by simpa using told_nil)
     rw[h1]at h3 h2
     rwa [List.take_of_length_le (by omega)]at h3
    |array m el=>
     simp only[e]at hks
     cases e1:ksOf P n el with
     |none=>simp[e1]at hks
     |some s=>
      simp only[e1]at hks
      split at hks
      ·rename_i hce
       simp only[beq_iff_eq]at hce
       cases hks
       obtain⟨a1,a2⟩:=trod_array e h
       have hlen:(List.replicate m s).flatten.length=m*s.length:=by simp
       have key:=array_told (ty:=ty) (W:=W) (s:=s) (cs:=cs) (n:=m) (fun i hi=>by
        obtain⟨y,hy⟩:=a2 i hi
        rw[hce]at hy
        exact ih n el s _ _ e1 hce (fun q hq=>hcl q (List.mem_flatten.2 ⟨s,List.mem_replicate.2 ⟨by omega,rfl⟩,hq⟩)) hy) m (Nat.le_refl _)
       rwa [List.take_of_length_le (by omega)]at key
      ·cases hks
    |_=>simp[e]at hks
end
section
theorem law_calls {P:Program} {ty:TypeId→Option Vk} {tab:FuncId→Option Entry} (h:TabOk P ty tab) {g:FuncId} {en:Entry} (hg:tab g=some en) {n:Nat} (ham:en.sig.am=List.replicate n .p) (hrm:en.sig.rm=[.p ⟨false,[.bool]⟩])
  {W:World} {vs:Array Value} {ds:List D} (hvs:vs.size=n) (hds:ds.length=n) (hrep:∀ i,i<n→pureD (ds.getD i .undef)=true∧RepV ty W (fun b=>b<W.heap.size) (vs.getD i undef) (ds.getD i .undef)) {k:Nat} (hd:dcall ty tab k g ds=some [.bool true]):
  Calls P g vs W fun e W'=>e= .returned (.bool true)∧W'.tape=W.tape∧W'.os=W.os∧W'.output=W.output∧W.heap.size≤W'.heap.size∧∀ b,b<W.heap.size→W'.heap[b]? =W.heap[b]? :=by
 have hp:Pre ty en.sig.am ds W vs (fun _=>none) (fun _=>False):=by
  rw[ham]
  refine⟨by simp[hvs],by simp[hds],fun i a hi=> ?_,fun i j b hb=>(by cases hb),fun i b hb=>(by cases hb),fun b hb=>hb.elim⟩
  have hi':=hi
  rw[List.getElem?_replicate]at hi'
  split at hi'
  ·rename_i hlt
   cases hi'
   obtain⟨h1,h2⟩:=hrep i hlt
   exact⟨h1,rfl,h2.mono (fun b hb=>⟨hb,fun hx=>hx,fun j=>by simp⟩) (fun _ _=>rfl)⟩
  ·cases hi'
 refine (dcall_sound h k hg ds _ hd W vs (fun _=>none) (fun _=>False) hp).mono fun e W' hR=> ?_
 cases e with
 |panicked _=>exact hR.elim
 |outgrown=>exact hR.elim
 |returned v=>
  obtain⟨rv,rb,rfl,post⟩:=hR
  have hlen:=post.len
  rw[hrm]at hlen
  obtain⟨v0,rfl⟩:∃ v0,rv=[v0]:=by
   match rv,hlen with
   |[v0],_=>exact⟨v0,rfl⟩
  have hres:=post.res 0 (.p ⟨false,[.bool]⟩) (by rw[hrm];rfl)
  obtain⟨_,_,hr⟩:=hres
  simp only[List.getD_cons_zero]at hr
  have:v0= .bool true:=by cases hr;rfl
  subst this
  exact⟨rfl,post.tape,post.os,post.out,post.size,fun b hb=>post.frame b hb (fun j=>by simp)⟩
end
section
open Go Go.ChangeShapes Go.RowKit
def parOk (P:Program) (ty:TypeId→Option Vk) (t:TypeId) (k:Vk):Bool:=
 ksOf P 20 t==some k.ks&&isAggT P t==some k.agg&&P.cellsOf t==k.ks.length&&k.ks.all (telling ty)&&P.readableRec t&&Nat.blt t P.types.size
def parsOk (P:Program) (ty:TypeId→Option Vk):List TypeId→List Vk→Bool
 |[],[]=>true
 |t::ts,k::ks=>parOk P ty t k&&parsOk P ty ts ks
 |_,_=>false
def fitsV:List Vk→List D→Bool
 |[],[]=>true
 |k::ks,d::ds=>k.fits d&&fitsV ks ds
 |_,_=>false
theorem clo_of {ty:TypeId→Option Vk} {ks:List Sk} (h:ks.all (telling ty)=true):clo ty ks:=by
 intro e he
 have h1:=List.all_eq_true.1 h _ he
 simp only[telling]at h1
 split at h1
 ·rename_i k hk
  exact⟨k,hk,h1⟩
 ·cases h1
theorem pure0_of {s:Sk} {d:D} (h:fits s d=true):pure0 d=true:=by
 cases d<;>first |rfl |(cases s<;>simp[fits]at h)
theorem pure0_all:∀ {ks:List Sk} {ds:List D},fitsL ks ds=true→ds.all pure0=true
 |[],[],_=>rfl
 |k::ks,d::ds,h=>by
  simp only[fitsL,zq3]at h
  simp only[List.all_cons,zq3]
  exact⟨pure0_of h.1,pure0_all h.2⟩
 |[],_::_,h=>by simp[fitsL]at h
 |_::_,[],h=>by simp[fitsL]at h
theorem told_arg {P:Program} {ty:TypeId→Option Vk} {W:World} {base:Nat} {t:TypeId} {k:Vk} {v:Value} (ha:isAggT P t=some k.agg) (h1:k.agg=false→k.ks.length=1) (hok:Value.okWide P W .any base t v)
  (h:Told ty W k.ks v.cells.toList):∃ d,k.fits d=true∧pureD d=true∧WT ty d∧RepV ty W (fun b=>b<W.heap.size) v d:=by
 obtain⟨l1,ds,f1,r1,w1⟩:=h
 have g1:=(fitsL_spec f1).1
 cases hk:k.agg with
 |true=>
  rw[hk]at ha
  have hv:∃ cs,v= .agg cs:=by
   unfold isAggT at ha
   unfold Value.okWide at hok
   split at ha<;>rename_i e
   ·rw[e]at hok;obtain⟨cs,h,_⟩:=hok;exact⟨cs,h⟩
   ·rw[e]at hok;obtain⟨cs,h,_⟩:=hok;exact⟨cs,h⟩
   ·simp at ha
   ·cases ha
  obtain⟨cs,rfl⟩:=hv
  have e1:(Value.agg cs).cells.toList=cs.toList:=rfl
  rw[e1]at l1 r1
  refine⟨.agg ds,by simp only[Vk.fits,hk];exact f1,pure0_all f1,.agg _ w1,.agg cs ds (by rw[g1,←l1,Array.length_toList]) fun j hj=> ?_⟩
  have:=r1 j (by omega)
  simpa[zq1,zq2]using this
 |false=>
  have hl:=h1 hk
  obtain⟨s,hs⟩:∃ s,k.ks=[s]:=by
   cases e1:k.ks with
   |nil=>simp[e1]at hl
   |cons s r=>simp[e1]at hl;exact⟨s,by simp[hl]⟩
  rw[hs]at f1 l1 r1
  obtain⟨d,rfl,hd⟩:=fitsL_one f1
  have hv:v.cells= #[v]:=by
   cases v with
   |agg cs=>
    exfalso
    rw[hk]at ha
    cases e:P.underlying t with
    |none=>simp[isAggT,e]at ha
    |some td=>cases td<;>simp[isAggT,e]at ha<;>simp[Value.okWide,Cell.okWide,Cell.ok,e]at hok
   |_=>rfl
  rw[hv]at r1
  have:=r1 0 (by simp)
  simp only[List.getD_cons_zero]at this
  refine⟨d,by simp only[Vk.fits,hk,hs];simpa[fitsL]using hd, ?_,w1 d (List.mem_singleton.2 rfl),this⟩
  cases d<;>first |(cases s<;>simp[fits]at hd;done) |simp[pureD,pure0,rpOk]
end
end Go.Proofs.Ytkfnkiejikhglaa.GD
