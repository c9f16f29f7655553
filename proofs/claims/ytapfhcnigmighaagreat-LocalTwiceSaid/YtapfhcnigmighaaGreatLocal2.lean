import Derived.Test.YtapfhcnigmighaaGreatLocal
set_option linter.unusedVariables false
set_option linter.unusedSimpArgs false
namespace Go.Proofs.YtapfhcnigmighaaGreat.Own
open Go Go.Proofs.YtapfhcnigmighaaGreat.GD
abbrev xKs : List Sk := [.sl 70, .sl 73, .sl 51, .sl 58, .sl 84, .sl 64]
abbrev xE (d : D) : List D := etaCells ks0 d 0
structure Xg (x : D) : Prop where
 fit : Vk.fits ⟨true, xKs⟩ x = true
 hf : ∀ d, d ∈ (x.cell 0).els → Fg d
 hy : ∀ d, d ∈ (x.cell 1).els → Yg d
 hc : ∀ d, d ∈ (x.cell 2).els → Cg d
 nf : (x.cell 0).els.length ≤ 9223372036854775807
 ny : (x.cell 1).els.length ≤ 9223372036854775807
 nc : (x.cell 2).els.length ≤ 9223372036854775807
 pay : Pay (x.cell 3).els (x.cell 4).els (x.cell 5).els
theorem Xg.eta {x : D} (h : Xg x) : D.agg (xE x) = x := eta_fit h.fit
theorem xEta (x : D) : etaList ks0 (xE x) 0 = xE x := etaList_eta ..
theorem xE0 (x : D) : (xE x).getD 0 .undef = .sl 70 (x.cell 0).nb (x.cell 0).els := rfl
theorem xE1 (x : D) : (xE x).getD 1 .undef = .sl 73 (x.cell 1).nb (x.cell 1).els := rfl
theorem xE2 (x : D) : (xE x).getD 2 .undef = .sl 51 (x.cell 2).nb (x.cell 2).els := rfl
theorem xE3 (x : D) : (xE x).getD 3 .undef = .sl 58 (x.cell 3).nb (x.cell 3).els := rfl
theorem xE4 (x : D) : (xE x).getD 4 .undef = .sl 84 (x.cell 4).nb (x.cell 4).els := rfl
theorem xE5 (x : D) : (xE x).getD 5 .undef = .sl 64 (x.cell 5).nb (x.cell 5).els := rfl
noncomputable def xC (x : D) : Int :=
 if 100 < (x.cell 0).els.length ∨ 100 < (x.cell 1).els.length ∨ 100 < (x.cell 2).els.length then 4
 else if risF goodF ltF (x.cell 0).els = true ∧ risF goodY ltY (x.cell 1).els = true ∧ risF goodC ltC (x.cell 2).els = true then payC (x.cell 3).els (x.cell 4).els (x.cell 5).els else 8
theorem localCheck_ok (x : D) (h : Xg x) : Cl ty tab 33 [x] = some [.int .i64 (xC x)] := by
 have := s_local_Check 0 x (r := [.int .i64 (xC x)]) ?_
 · rwa [h.eta] at this
 unfold local_Check xC
 have p1 := s_local_byPrefix 0 (r := [.agg [.fn 86 [], .fn 91 []]]) rfl
 have p2 := s_local_byKey 0 (r := [.agg [.fn 92 [], .fn 95 []]]) rfl
 have p3 := s_local_byCustomer 0 (r := [.agg [.fn 90 [], .fn 96 []]]) rfl
 have mx : ∀ a b c : Nat, decide ((100 : Int) < (if (if ((a : Nat) : Int) < (b : Nat) then ((b : Nat) : Int) else (a : Nat)) < ((c : Nat) : Int) then ((c : Nat) : Int) else (if ((a : Nat) : Int) < (b : Nat) then ((b : Nat) : Int) else (a : Nat)))) = decide (100 < a ∨ 100 < b ∨ 100 < c) := fun a b c => by
  simp only [decide_eq_decide]
  split <;> split <;> omega
 rw [mx]
 by_cases h0 : 100 < (x.cell 0).els.length ∨ 100 < (x.cell 1).els.length ∨ 100 < (x.cell 2).els.length
 · rw [if_pos h0]
   simp only [h0, decide_true, ct]
 rw [if_neg h0]
 have cF := checkF_ok (x.cell 0).nb (x.cell 0).els h.hf h.nf
 have cY := checkY_ok (x.cell 1).nb (x.cell 1).els h.hy h.ny
 have cC := checkC_ok (x.cell 2).nb (x.cell 2).els h.hc h.nc
 have cP := diffCheck_ok (x.cell 3).nb (x.cell 4).nb (x.cell 5).nb (x.cell 3).els (x.cell 4).els (x.cell 5).els h.pay
 simp only [h0, decide_false, cf]
 clear mx
 cases h1 : risF goodF ltF (x.cell 0).els <;> cases h2 : risF goodY ltY (x.cell 1).els <;> cases h3 : risF goodC ltC (x.cell 2).els <;>
  simp (disch := omega) only [gds, p1, p2, p3, cF, cY, cC, cP, h1, h2, h3, and_self, and_false, false_and]
section
variable (k : Nat) (hk : 9223372036854775809 < k) (x : D) (h : Xg x)
include hk h
end
structure SmallX (x : D) : Prop where
 f : (x.cell 0).els.length ≤ 120
 y : (x.cell 1).els.length ≤ 120
 c : (x.cell 2).els.length ≤ 120
 pay : Small (x.cell 3).els (x.cell 4).els (x.cell 5).els
theorem Great43_ok (x : D) (h : Xg x) : ∃ b, Cl ty tab 17 [x] = some [.bool b] ∧ (b = false → SmallX x) := by
 obtain ⟨b, hb, hs⟩ := Great34_ok (x.cell 3).nb (x.cell 4).nb (x.cell 5).nb (x.cell 3).els (x.cell 4).els (x.cell 5).els h.pay
 have key : ∀ r, gatepathref43_Great (Cl ty tab) 0 x = some [.bool r] → Cl ty tab 17 [x] = some [.bool r] := fun r hr => by
  have := s_gatepathref43_Great 0 x hr
  rwa [h.eta] at this
 unfold gatepathref43_Great at key
 by_cases h0 : 120 < (x.cell 0).els.length
 · exact ⟨true, key _ (by simp (disch := omega) only [gds, h0]), fun h => by cases h⟩
 by_cases h1 : 120 < (x.cell 1).els.length
 · exact ⟨true, key _ (by simp (disch := omega) only [gds, h0, h1]), fun h => by cases h⟩
 by_cases h2 : 120 < (x.cell 2).els.length
 · exact ⟨true, key _ (by simp (disch := omega) only [gds, h0, h1, h2]), fun h => by cases h⟩
 exact ⟨b, key _ (by simp (disch := omega) only [gds, h0, h1, h2, hb]), fun e => ⟨by omega, by omega, by omega, hs e⟩⟩
def SameX (a b : D) : Prop := (a.cell 0).els = (b.cell 0).els ∧ (a.cell 1).els = (b.cell 1).els ∧ (a.cell 2).els = (b.cell 2).els ∧ (a.cell 3).els = (b.cell 3).els ∧ (a.cell 4).els.map pk = (b.cell 4).els.map pk ∧ (a.cell 5).els = (b.cell 5).els
section
variable (k : Nat) (hk : 9223372036854775808 < k) (a b : D) (ha : Xg a) (hb : Xg b)
include hk ha hb
theorem same43b2 (h2 : (a.cell 2).els.length = (b.cell 2).els.length) : ∃ r : Bool, iter k (gatepathref43_Same.b2 (Cl ty tab) k) [.int .i64 0, .pv (xE a), .pv (xE b)] = some [.bool r] ∧ (r = true ↔ (a.cell 2).els = (b.cell 2).els ∧ (a.cell 3).els = (b.cell 3).els ∧ (a.cell 4).els.map pk = (b.cell 4).els.map pk ∧ (a.cell 5).els = (b.cell 5).els) := by
 have hn := ha.nc
 obtain ⟨r2, g2, g3⟩ := same34_ok (a.cell 3).nb (a.cell 4).nb (a.cell 5).nb (b.cell 3).nb (b.cell 4).nb (b.cell 5).nb (a.cell 3).els (a.cell 4).els (a.cell 5).els (b.cell 3).els (b.cell 4).els (b.cell 5).els ha.pay hb.pay
 have hx := all_loop (F := gatepathref43_Same.b2 (Cl ty tab) k) (a.cell 2).els.length (fun i => decide ((((a.cell 2).els.getD i .undef).cell 0).i = (((b.cell 2).els.getD i .undef).cell 0).i)) (fun i => [.int .i64 i, .pv (xE a), .pv (xE b)]) (some [.bool false]) (some [.bool r2]) (fun i hi again => ?_) (fun again => ?_) k (by omega)
 · obtain ⟨r, hr, hr2⟩ := hx
   refine ⟨r && r2, ?_, ?_⟩
   · simp only [Int.natCast_zero] at hr
     rw [hr]; cases r <;> rfl
   · rw [zq3, hr2, g3]
     refine and_congr ?_ Iff.rfl
     simp only [decide_eq_true_eq]
     exact all_eq_iff h2 (p := fun x y => (x.cell 0).i = (y.cell 0).i) fun x y hx hy => by
      have e1 := (ha.hc x hx).eta
      have e2 := (hb.hc y hy).eta
      constructor
      · intro e; rw [← e1, ← e2, e]
      · intro e; rw [e]
 · unfold gatepathref43_Same.b2
   by_cases h3 : (((a.cell 2).els.getD i .undef).cell 0).i = (((b.cell 2).els.getD i .undef).cell 0).i
   · simp (disch := omega) only [gds, xE2, xEta, h3, ne_eq, not_true_eq_false, Int.natCast_add, Int.natCast_one]
   · simp (disch := omega) only [gds, xE2, xEta, h3, ne_eq, not_false_eq_true, Int.natCast_add, Int.natCast_one]
 · unfold gatepathref43_Same.b2
   simp (disch := omega) only [gds, xE2, xE3, xE4, xE5, xEta, g2]
theorem same43b1 (h1 : (a.cell 1).els.length = (b.cell 1).els.length) (h2 : (a.cell 2).els.length = (b.cell 2).els.length) : ∃ r : Bool, iter k (gatepathref43_Same.b1 (Cl ty tab) k) [.int .i64 0, .pv (xE a), .pv (xE b)] = some [.bool r] ∧ (r = true ↔ (a.cell 1).els = (b.cell 1).els ∧ (a.cell 2).els = (b.cell 2).els ∧ (a.cell 3).els = (b.cell 3).els ∧ (a.cell 4).els.map pk = (b.cell 4).els.map pk ∧ (a.cell 5).els = (b.cell 5).els) := by
 have hn := ha.ny
 obtain ⟨r2, g2, g3⟩ := same43b2 k hk a b ha hb h2
 have hx := all_loop (F := gatepathref43_Same.b1 (Cl ty tab) k) (a.cell 1).els.length (fun i => eqCells (yKsE ((a.cell 1).els.getD i .undef) 0) (yKsE ((b.cell 1).els.getD i .undef) 0)) (fun i => [.int .i64 i, .pv (xE a), .pv (xE b)]) (some [.bool false]) (some [.bool r2]) (fun i hi again => ?_) (fun again => ?_) k (by omega)
 · obtain ⟨r, hr, hr2⟩ := hx
   refine ⟨r && r2, ?_, ?_⟩
   · simp only [Int.natCast_zero] at hr
     rw [hr]; cases r <;> rfl
   · rw [zq3, hr2, g3]
     refine and_congr ?_ Iff.rfl
     exact all_eq_iff h1 (p := fun x y => eqCells (yKsE x 0) (yKsE y 0) = true) fun x y hx hy => eqCells_eta (ks := yKs) (by decide) (ha.hy x hx).fit (hb.hy y hy).fit
 · unfold gatepathref43_Same.b1
   cases hc : eqCells (yKsE ((a.cell 1).els.getD i .undef) 0) (yKsE ((b.cell 1).els.getD i .undef) 0)
   · simp (disch := omega) only [gds, xE1, xEta, hc, Int.natCast_add, Int.natCast_one]
   · simp (disch := omega) only [gds, xE1, xEta, hc, Int.natCast_add, Int.natCast_one]
 · unfold gatepathref43_Same.b1
   simp (disch := omega) only [gds, xE1, xEta, g2]
theorem same43b0 (h0 : (a.cell 0).els.length = (b.cell 0).els.length) (h1 : (a.cell 1).els.length = (b.cell 1).els.length) (h2 : (a.cell 2).els.length = (b.cell 2).els.length) : ∃ r : Bool, iter k (gatepathref43_Same.b0 (Cl ty tab) k) [.int .i64 0, .pv (xE a), .pv (xE b)] = some [.bool r] ∧ (r = true ↔ SameX a b) := by
 have hn := ha.nf
 obtain ⟨r2, g2, g3⟩ := same43b1 k hk a b ha hb h1 h2
 have hx := all_loop (F := gatepathref43_Same.b0 (Cl ty tab) k) (a.cell 0).els.length (fun i => eqCells (etaCells ks3 ((a.cell 0).els.getD i .undef) 0) (etaCells ks3 ((b.cell 0).els.getD i .undef) 0)) (fun i => [.int .i64 i, .pv (xE a), .pv (xE b)]) (some [.bool false]) (some [.bool r2]) (fun i hi again => ?_) (fun again => ?_) k (by omega)
 · obtain ⟨r, hr, hr2⟩ := hx
   refine ⟨r && r2, ?_, ?_⟩
   · simp only [Int.natCast_zero] at hr
     rw [hr]; cases r <;> rfl
   · rw [zq3, hr2, g3]
     refine and_congr ?_ Iff.rfl
     exact all_eq_iff h0 (p := fun x y => eqCells (etaCells fKs x 0) (etaCells fKs y 0) = true) fun x y hx hy => eqCells_eta (ks := fKs) (by decide) (ha.hf x hx).fit (hb.hf y hy).fit
 · unfold gatepathref43_Same.b0
   cases hc : eqCells (etaCells ks3 ((a.cell 0).els.getD i .undef) 0) (etaCells ks3 ((b.cell 0).els.getD i .undef) 0)
   · simp (disch := omega) only [gds, xE0, xEta, hc, Int.natCast_add, Int.natCast_one]
   · simp (disch := omega) only [gds, xE0, xEta, hc, Int.natCast_add, Int.natCast_one]
 · unfold gatepathref43_Same.b0
   simp (disch := omega) only [gds, xE0, xEta, g2]
omit hk in
theorem same43_ok : ∃ r : Bool, Cl ty tab 14 [a, b] = some [.bool r] ∧ (r = true ↔ SameX a b) := by
 obtain ⟨k, hk⟩ := rounds
 have key : ∀ r, gatepathref43_Same (Cl ty tab) k a b = some [.bool r] → Cl ty tab 14 [a, b] = some [.bool r] := fun r hr => by
  have := s_gatepathref43_Same k a b hr
  rwa [ha.eta, hb.eta] at this
 unfold gatepathref43_Same at key
 by_cases h0 : (a.cell 0).els.length = (b.cell 0).els.length
 case neg =>
  refine ⟨false, key _ ?_, ?_⟩
  · have : ¬ (((a.cell 0).els.length : Nat) : Int) = (((b.cell 0).els.length : Nat) : Int) := by omega
    simp (disch := omega) only [gds, this, ne_eq, not_false_eq_true]
  · constructor
    · intro h; cases h
    · intro h; exact absurd (congrArg List.length h.1) h0
 by_cases h1 : (a.cell 1).els.length = (b.cell 1).els.length
 case neg =>
  refine ⟨false, key _ ?_, ?_⟩
  · have e0 : (((a.cell 0).els.length : Nat) : Int) = (((b.cell 0).els.length : Nat) : Int) := by omega
    have : ¬ (((a.cell 1).els.length : Nat) : Int) = (((b.cell 1).els.length : Nat) : Int) := by omega
    simp (disch := omega) only [gds, e0, this, ne_eq, not_false_eq_true, not_true_eq_false]
  · constructor
    · intro h; cases h
    · intro h; exact absurd (congrArg List.length h.2.1) h1
 by_cases h2 : (a.cell 2).els.length = (b.cell 2).els.length
 case neg =>
  refine ⟨false, key _ ?_, ?_⟩
  · have e0 : (((a.cell 0).els.length : Nat) : Int) = (((b.cell 0).els.length : Nat) : Int) := by omega
    have e1 : (((a.cell 1).els.length : Nat) : Int) = (((b.cell 1).els.length : Nat) : Int) := by omega
    have : ¬ (((a.cell 2).els.length : Nat) : Int) = (((b.cell 2).els.length : Nat) : Int) := by omega
    simp (disch := omega) only [gds, e0, e1, this, ne_eq, not_false_eq_true, not_true_eq_false]
  · constructor
    · intro h; cases h
    · intro h; exact absurd (congrArg List.length h.2.2.1) h2
 obtain ⟨r, hr, hr2⟩ := same43b0 k hk a b ha hb h0 h1 h2
 refine ⟨r, key _ ?_, hr2⟩
 have e0 : (((a.cell 0).els.length : Nat) : Int) = (((b.cell 0).els.length : Nat) : Int) := by omega
 have e1 : (((a.cell 1).els.length : Nat) : Int) = (((b.cell 1).els.length : Nat) : Int) := by omega
 have e2 : (((a.cell 2).els.length : Nat) : Int) = (((b.cell 2).els.length : Nat) : Int) := by omega
 simp (disch := omega) only [gds, e0, e1, e2, hr, ne_eq, not_true_eq_false]
end
end Go.Proofs.YtapfhcnigmighaaGreat.Own
