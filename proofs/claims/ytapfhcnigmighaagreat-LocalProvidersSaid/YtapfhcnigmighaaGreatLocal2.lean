import Derived.Test.YtapfhcnigmighaaGreatLocal
set_option linter.unusedVariables false
set_option linter.unusedSimpArgs false
namespace Go.Proofs.YtapfhcnigmighaaGreat.Own
open Go Go.Proofs.YtapfhcnigmighaaGreat.GD
abbrev xKs : List Sk := [.sl 70, .sl 73, .sl 51, .sl 58, .sl 84, .sl 64]
abbrev xE (d : D) : List D := etaCells ks0 d 0
structure Xg (x : D) : Prop where
 fit : Vk.fits ⟨true, xKs⟩ x = true
 hf : ∀ d, d ∈ (x.cell 0).els → Fg d
 hy : ∀ d, d ∈ (x.cell 1).els → Yg d
 hc : ∀ d, d ∈ (x.cell 2).els → Cg d
 nf : (x.cell 0).els.length ≤ 9223372036854775807
 ny : (x.cell 1).els.length ≤ 9223372036854775807
 nc : (x.cell 2).els.length ≤ 9223372036854775807
 pay : Pay (x.cell 3).els (x.cell 4).els (x.cell 5).els
theorem Xg.eta {x : D} (h : Xg x) : D.agg (xE x) = x := eta_fit h.fit
noncomputable def xC (x : D) : Int :=
 if 100 < (x.cell 0).els.length ∨ 100 < (x.cell 1).els.length ∨ 100 < (x.cell 2).els.length then 4
 else if risF goodF ltF (x.cell 0).els = true ∧ risF goodY ltY (x.cell 1).els = true ∧ risF goodC ltC (x.cell 2).els = true then payC (x.cell 3).els (x.cell 4).els (x.cell 5).els else 8
theorem localCheck_ok (x : D) (h : Xg x) : Cl ty tab 33 [x] = some [.int .i64 (xC x)] := by
 have := s_local_Check 0 x (r := [.int .i64 (xC x)]) ?_
 · rwa [h.eta] at this
 unfold local_Check xC
 have p1 := s_local_byPrefix 0 (r := [.agg [.fn 86 [], .fn 91 []]]) rfl
 have p2 := s_local_byKey 0 (r := [.agg [.fn 92 [], .fn 95 []]]) rfl
 have p3 := s_local_byCustomer 0 (r := [.agg [.fn 90 [], .fn 96 []]]) rfl
 have mx : ∀ a b c : Nat, decide ((100 : Int) < (if (if ((a : Nat) : Int) < (b : Nat) then ((b : Nat) : Int) else (a : Nat)) < ((c : Nat) : Int) then ((c : Nat) : Int) else (if ((a : Nat) : Int) < (b : Nat) then ((b : Nat) : Int) else (a : Nat)))) = decide (100 < a ∨ 100 < b ∨ 100 < c) := fun a b c => by
  simp only [decide_eq_decide]
  split <;> split <;> omega
 rw [mx]
 by_cases h0 : 100 < (x.cell 0).els.length ∨ 100 < (x.cell 1).els.length ∨ 100 < (x.cell 2).els.length
 · rw [if_pos h0]
   simp only [h0, decide_true, ct]
 rw [if_neg h0]
 have cF := checkF_ok (x.cell 0).nb (x.cell 0).els h.hf h.nf
 have cY := checkY_ok (x.cell 1).nb (x.cell 1).els h.hy h.ny
 have cC := checkC_ok (x.cell 2).nb (x.cell 2).els h.hc h.nc
 have cP := diffCheck_ok (x.cell 3).nb (x.cell 4).nb (x.cell 5).nb (x.cell 3).els (x.cell 4).els (x.cell 5).els h.pay
 simp only [h0, decide_false, cf]
 clear mx
 cases h1 : risF goodF ltF (x.cell 0).els <;> cases h2 : risF goodY ltY (x.cell 1).els <;> cases h3 : risF goodC ltC (x.cell 2).els <;>
  simp (disch := omega) only [gds, p1, p2, p3, cF, cY, cC, cP, h1, h2, h3, and_self, and_false, false_and]
section
variable (k : Nat) (hk : 9223372036854775809 < k) (x : D) (h : Xg x)
include hk h
end
structure SmallX (x : D) : Prop where
 f : (x.cell 0).els.length ≤ 120
 y : (x.cell 1).els.length ≤ 120
 c : (x.cell 2).els.length ≤ 120
 pay : Small (x.cell 3).els (x.cell 4).els (x.cell 5).els
theorem Great43_ok (x : D) (h : Xg x) : ∃ b, Cl ty tab 17 [x] = some [.bool b] ∧ (b = false → SmallX x) := by
 obtain ⟨b, hb, hs⟩ := Great34_ok (x.cell 3).nb (x.cell 4).nb (x.cell 5).nb (x.cell 3).els (x.cell 4).els (x.cell 5).els h.pay
 have key : ∀ r, gatepathref43_Great (Cl ty tab) 0 x = some [.bool r] → Cl ty tab 17 [x] = some [.bool r] := fun r hr => by
  have := s_gatepathref43_Great 0 x hr
  rwa [h.eta] at this
 unfold gatepathref43_Great at key
 by_cases h0 : 120 < (x.cell 0).els.length
 · exact ⟨true, key _ (by simp (disch := omega) only [gds, h0]), fun h => by cases h⟩
 by_cases h1 : 120 < (x.cell 1).els.length
 · exact ⟨true, key _ (by simp (disch := omega) only [gds, h0, h1]), fun h => by cases h⟩
 by_cases h2 : 120 < (x.cell 2).els.length
 · exact ⟨true, key _ (by simp (disch := omega) only [gds, h0, h1, h2]), fun h => by cases h⟩
 exact ⟨b, key _ (by simp (disch := omega) only [gds, h0, h1, h2, hb]), fun e => ⟨by omega, by omega, by omega, hs e⟩⟩
section
variable (k : Nat) (hk : 9223372036854775808 < k) (a b : D) (ha : Xg a) (hb : Xg b)
include hk ha hb
end
end Go.Proofs.YtapfhcnigmighaaGreat.Own
