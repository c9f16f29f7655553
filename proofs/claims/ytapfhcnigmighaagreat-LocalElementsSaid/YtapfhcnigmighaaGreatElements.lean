import Derived.Test.YtapfhcnigmighaaGreatMem
import Derived.Test.YtapfhcnigmighaaGreatAl
import Derived.Test.YtapfhcnigmighaaGreatRLocalElements
set_option linter.unusedVariables false
set_option linter.unusedSimpArgs false
namespace Go.Proofs.YtapfhcnigmighaaGreat.Own
open Go Go.Proofs.YtapfhcnigmighaaGreat.GD
theorem and_loop {F : List D → (List D → Option (List D)) → Option (List D)} (l : List D) (T : D → Bool) (enc : Bool → Nat → List D) (V : Option (List D)) (S0 : Bool)
  (step : ∀ i (hi : i < l.length) (s : Bool), ∀ ag, ag (enc (s && !T l[i]) (i + 1)) = V → F (enc s i) ag = V) (fin : ∀ ag, F (enc (S0 && !l.any T) l.length) ag = V) (k : Nat) (hk : l.length < k) : iter k F (enc S0 0) = V := by
 refine iter_wf (σ := Bool × Nat) (fun s => enc s.1 s.2) (fun _ => V) (fun s => l.length - s.2) (fun s => s.2 ≤ l.length ∧ (s.1 && !((l.drop s.2).any T)) = (S0 && !l.any T)) (fun s hs ag ih => ?_) k (S0, 0) ⟨by simp, by simp⟩ (by simp only; omega)
 obtain ⟨s, i⟩ := s
 obtain ⟨g1, g2⟩ := hs
 simp only at g1 g2 ih ⊢
 rcases Nat.lt_or_ge i l.length with hi | hi
 · refine step i hi s ag (ih (s && !T l[i], i + 1) ⟨by simp only; omega, ?_⟩ (by simp only; omega))
   rw [List.drop_eq_getElem_cons hi, List.any_cons] at g2
   rw [← g2]
   simp only
   cases s <;> cases T l[i] <;> simp
 · obtain rfl : i = l.length := by omega
   rw [List.drop_length] at g2
   have : s = (S0 && !l.any T) := by simpa using g2
   rw [this]
   exact fin ag
theorem idx_any (v : Int) (l : List D) : decide (0 ≤ idx v l 0) = l.any (eqP v) := by
 have := idx_pos v l 0
 cases h : l.any (eqP v)
 · rw [decide_eq_false]
   intro h2
   obtain ⟨d, hd, e⟩ := this.1 h2
   have : l.any (eqP v) = true := List.any_eq_true.2 ⟨d, hd, by simp [eqP, e]⟩
   rw [h] at this; cases this
 · obtain ⟨d, hd, e⟩ := List.any_eq_true.1 h
   rw [decide_eq_true]
   exact this.2 ⟨d, hd, by simpa [eqP] using e⟩
abbrev stE (x d e : D) (m : Bool) (o p q : List D) (s : Bool) (i : Nat) : List D := [.bool s, .int .i64 i, .pv (xE x), .pv (etaCells ks1 d 0), .pv (kKsE e 0), .pv [.sl 58 false o, .sl 84 m p, .sl 64 false q]]
section
variable (k : Nat) (hk : 60000 < k) (x d e : D) (v : Int) (m : Bool) (o p q : List D) (s0 s1 s2 : Bool) (hx : Xg x) (hd : Og d) (he : Kg e) (lx : (x.cell 2).els.length ≤ 60000) (l3 : (x.cell 3).els.length ≤ 60000) (l4 : (x.cell 4).els.length ≤ 60000) (l5 : (x.cell 5).els.length ≤ 60000)
 (lo : o.length ≤ 60000) (lp : p.length ≤ 60000) (lq : q.length ≤ 60000) (hp : Pay o p q) (hc : payC o p q = 0)
 (hO : o.any (eqO d) = (s0 || (x.cell 3).els.any (eqO d))) (hK : q.any (eqK e) = (s1 || (x.cell 5).els.any (eqK e))) (hP : p.any (eqP v) = ((s2 && !(x.cell 2).els.any (eqP v)) || (x.cell 4).els.any (eqP v)))
include hk hx hd he lx l3 l4 l5 lo lp lq hp hc hO hK hP
theorem elem2 (w9 w12 : List D) (h9 : w9.getD 0 .undef = .bool s0) (h12 : w12.getD 0 .undef = .bool s1) : iter k (gatepathlaw43_LocalElements.b2 (Cl ty tab) k v [.bool true] w9 w12) (stE x d e m o p q s2 0) = some [.bool true] := by
 refine and_loop (F := gatepathlaw43_LocalElements.b2 (Cl ty tab) k v [.bool true] w9 w12) (x.cell 2).els (eqP v) (stE x d e m o p q) _ s2 (fun i hi s ag ha => ?_) (fun ag => ?_) k (by omega)
 · simp only [stE, Int.natCast_add, Int.natCast_one] at ha ⊢
   unfold gatepathlaw43_LocalElements.b2
   by_cases c : (((x.cell 2).els[i].cell 0).i) = v
   · have c2 : eqP v (x.cell 2).els[i] = true := by simp [eqP, c]
     rw [c2] at ha
     cases s <;> simp (disch := omega) only [gds, getD_get, xE2, xEta, etaList_eta, c, bne_self_eq_false, Bool.not_true, Bool.and_false] at ha ⊢ <;> exact ha
   · have c2 : eqP v (x.cell 2).els[i] = false := by simp [eqP, c]
     have c3 : ((((x.cell 2).els[i].cell 0).i) != v) = true := by simp [c]
     rw [c2] at ha
     cases s <;> simp (disch := omega) only [gds, getD_get, xE2, xEta, etaList_eta, c3, Bool.not_false, Bool.and_true] at ha ⊢ <;> exact ha
 · have hxe : D.agg (xE x) = x := hx.eta
   have c1 := diffCheck_ok false m false o p q hp
   have c2 := hasO_ok false o d hd lo
   have c3 := hasK_ok false q e he lq
   have c4 := hasP_ok m p v lp
   have c5 := hasO_ok (x.cell 3).nb (x.cell 3).els d hd l3
   have c6 := hasK_ok (x.cell 5).nb (x.cell 5).els e he l5
   have c7 := hasP_ok (x.cell 4).nb (x.cell 4).els v l4
   have ed := hd.eta
   have ee : D.agg (kKsE e 0) = e := he.eta
   rw [hc] at c1
   rw [hO] at c2
   rw [hK] at c3
   rw [hP] at c4
   generalize (s2 && !(x.cell 2).els.any (eqP v)) = s3 at c4 ⊢
   generalize (x.cell 3).els.any (eqO d) = u1 at c2 c5
   generalize (x.cell 5).els.any (eqK e) = u2 at c3 c6
   generalize (x.cell 4).els.any (eqP v) = u3 at c4 c7
   clear hO hK hP hp hx hc lx l3 l4 l5 lo lp lq
   unfold gatepathlaw43_LocalElements.b2
   simp only [stE]
   cases s0 <;> cases s1 <;> cases s3 <;> simp (disch := omega) only [gds, xE2, xE3, xE4, xE5, xEta, etaList_eta, h9, h12, c1, c2, c3, c4, c5, c6, c7, ed, ee, beq_self_eq_true, Int.natCast_zero]
end
section
variable (k : Nat) (hk : 60000 < k) (x d e : D) (v : Int) (m : Bool) (o p q : List D) (s0 s1 s2 : Bool) (hx : Xg x) (hd : Og d) (he : Kg e) (ly : (x.cell 1).els.length ≤ 60000) (lx : (x.cell 2).els.length ≤ 60000) (l3 : (x.cell 3).els.length ≤ 60000) (l4 : (x.cell 4).els.length ≤ 60000) (l5 : (x.cell 5).els.length ≤ 60000)
 (lo : o.length ≤ 60000) (lp : p.length ≤ 60000) (lq : q.length ≤ 60000) (hp : Pay o p q) (hc : payC o p q = 0)
 (hO : o.any (eqO d) = (s0 || (x.cell 3).els.any (eqO d))) (hK : q.any (eqK e) = ((s1 && !goneK x e) || (x.cell 5).els.any (eqK e))) (hP : p.any (eqP v) = ((s2 && !(x.cell 2).els.any (eqP v)) || (x.cell 4).els.any (eqP v)))
include hk hx hd he ly lx l3 l4 l5 lo lp lq hp hc hO hK hP
theorem elem1 (w9 : List D) (h9 : w9.getD 0 .undef = .bool s0) : iter k (gatepathlaw43_LocalElements.b1 (Cl ty tab) k v [.bool true] [.bool s2] w9) (stE x d e m o p q s1 0) = some [.bool true] := by
 refine and_loop (F := gatepathlaw43_LocalElements.b1 (Cl ty tab) k v [.bool true] [.bool s2] w9) (x.cell 1).els (fun f => takesK f e) (stE x d e m o p q) _ s1 (fun i hi s ag ha => ?_) (fun ag => ?_) k (by omega)
 · simp only [stE, Int.natCast_add, Int.natCast_one] at ha ⊢
   unfold gatepathlaw43_LocalElements.b1
   have et : takesK (x.cell 1).els[i] e = ((!((x.cell 1).els[i].cell 1).b || eqCells (etaCells ks3 (x.cell 1).els[i] 3) ((kKsE e 0).drop 1)) && (!((x.cell 1).els[i].cell 0).b || ((x.cell 1).els[i].cell 2).i == (e.cell 0).i)) := rfl
   have el : etaList ks3 (kKsE e 0) 1 = (kKsE e 0).drop 1 := rfl
   have e0 : ((kKsE e 0).getD 0 .undef).i = (e.cell 0).i := rfl
   generalize hq : eqCells (etaCells ks3 (x.cell 1).els[i] 3) ((kKsE e 0).drop 1) = c at et
   rw [et] at ha
   clear et hO hK hP hp hx hc lx l3 l4 l5 lo lp lq
   cases s <;> cases h1 : ((x.cell 1).els[i].cell 1).b <;> cases h0 : ((x.cell 1).els[i].cell 0).b <;> cases c <;> simp (disch := omega) only [gds, getD_get, xE1, xEta, etaList_eta, el, e0, hq, h0, h1] at ha ⊢ <;> exact ha
 · have := elem2 k hk x d e v m o p q s0 (s1 && !goneK x e) s2 hx hd he lx l3 l4 l5 lo lp lq hp hc hO hK hP w9 (stE x d e m o p q (s1 && !goneK x e) (x.cell 1).els.length) h9 rfl
   clear hO hK hP hp hx hc lx l3 l4 l5 lo lp lq
   unfold gatepathlaw43_LocalElements.b1
   simp only [stE, Int.natCast_zero] at this ⊢
   simp (disch := omega) only [gds, xE1, xEta, etaList_eta]
   exact this
end
section
variable (k : Nat) (hk : 60000 < k) (x d e : D) (v : Int) (m : Bool) (o p q : List D) (s0 s1 s2 : Bool) (hx : Xg x) (hd : Og d) (he : Kg e) (lf : (x.cell 0).els.length ≤ 60000) (ly : (x.cell 1).els.length ≤ 60000) (lx : (x.cell 2).els.length ≤ 60000) (l3 : (x.cell 3).els.length ≤ 60000) (l4 : (x.cell 4).els.length ≤ 60000) (l5 : (x.cell 5).els.length ≤ 60000)
 (lo : o.length ≤ 60000) (lp : p.length ≤ 60000) (lq : q.length ≤ 60000) (hp : Pay o p q) (hc : payC o p q = 0)
 (hO : o.any (eqO d) = ((s0 && !goneO x d) || (x.cell 3).els.any (eqO d))) (hK : q.any (eqK e) = ((s1 && !goneK x e) || (x.cell 5).els.any (eqK e))) (hP : p.any (eqP v) = ((s2 && !(x.cell 2).els.any (eqP v)) || (x.cell 4).els.any (eqP v)))
include hk hx hd he lf ly lx l3 l4 l5 lo lp lq hp hc hO hK hP
theorem elem0 : iter k (gatepathlaw43_LocalElements.b0 (Cl ty tab) k v [.bool true] [.bool s1] [.bool s2]) (stE x d e m o p q s0 0) = some [.bool true] := by
 refine and_loop (F := gatepathlaw43_LocalElements.b0 (Cl ty tab) k v [.bool true] [.bool s1] [.bool s2]) (x.cell 0).els (fun f => takesO f d) (stE x d e m o p q) _ s0 (fun i hi s ag ha => ?_) (fun ag => ?_) k (by omega)
 · simp only [stE, Int.natCast_add, Int.natCast_one] at ha ⊢
   unfold gatepathlaw43_LocalElements.b0
   have cv := covers_ok (x.cell 0).els[i] d (hx.hf _ (List.getElem_mem hi)) hd
   have et : takesO (x.cell 0).els[i] d = ((!((x.cell 0).els[i].cell 0).b || covO (x.cell 0).els[i] d) && (!((x.cell 0).els[i].cell 1).b || ((x.cell 0).els[i].cell 6).i == (d.cell 0).i)) := rfl
   have d0 : ((etaCells ks1 d 0).getD 0 .undef).i = (d.cell 0).i := rfl
   have d1 : ((etaCells ks1 d 0).getD 1 .undef).i = (d.cell 1).i := rfl
   have d2 : ((etaCells ks1 d 0).getD 2 .undef).i = (d.cell 2).i := rfl
   have d3 : ((etaCells ks1 d 0).getD 3 .undef).i = (d.cell 3).i := rfl
   have d4 : ((etaCells ks1 d 0).getD 4 .undef).i = (d.cell 4).i := rfl
   generalize covO (x.cell 0).els[i] d = c at et cv
   rw [et] at ha
   clear et hO hK hP hp hx hc lx l3 l4 l5 lo lp lq
   cases s <;> cases h1 : ((x.cell 0).els[i].cell 1).b <;> cases h0 : ((x.cell 0).els[i].cell 0).b <;> cases c <;> simp (disch := omega) only [gds, getD_get, xE0, xEta, etaList_eta, d0, d1, d2, d3, d4, cv, h0, h1] at ha ⊢ <;> exact ha
 · have := elem1 k hk x d e v m o p q (s0 && !goneO x d) s1 s2 hx hd he ly lx l3 l4 l5 lo lp lq hp hc hO hK hP (stE x d e m o p q (s0 && !goneO x d) (x.cell 0).els.length) rfl
   clear hO hK hP hp hx hc lx l3 l4 l5 lo lp lq
   unfold gatepathlaw43_LocalElements.b0
   simp only [stE, Int.natCast_zero] at this ⊢
   simp (disch := omega) only [gds, xE0, xEta, etaList_eta]
   exact this
end
end Go.Proofs.YtapfhcnigmighaaGreat.Own
