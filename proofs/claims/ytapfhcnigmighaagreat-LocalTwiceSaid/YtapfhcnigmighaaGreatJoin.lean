import Derived.Test.YtapfhcnigmighaaGreatMerge2
import Derived.Test.YtapfhcnigmighaaGreatSrt
import Derived.Test.YtapfhcnigmighaaGreatApply
set_option linter.unusedVariables false
set_option linter.unusedSimpArgs false
namespace Go.Proofs.YtapfhcnigmighaaGreat.Own
open Go Go.Proofs.YtapfhcnigmighaaGreat.GD
abbrev rulD (a b c n m t : Bool) (F Y C o p q : List D) : D := .agg [.sl 70 a F, .sl 73 b Y, .sl 51 c C, .sl 58 n o, .sl 84 m p, .sl 64 t q]
abbrev nilRul : D := rulD true true true true true true [] [] [] [] [] []
abbrev mF (a b : List D) : List D := mrg ordF fst2 a b
abbrev mY (a b : List D) : List D := mrg ordY fst2 a b
abbrev mC (a b : List D) : List D := mrg ordC fst2 a b
structure Jn (F Y C o p q : List D) : Prop where
 hF : ∀ d, d ∈ F → Fg d
 hY : ∀ d, d ∈ Y → Yg d
 hC : ∀ d, d ∈ C → Cg d
 nF : F.length ≤ 1000
 nY : Y.length ≤ 1000
 nC : C.length ≤ 1000
theorem xg_rul (a b c n m t : Bool) {F Y C o p q : List D} (h : Jn F Y C o p q) (hp : Pay o p q) : Xg (rulD a b c n m t F Y C o p q) :=
 ⟨by simp [Vk.fits, fitsL, fits, xKs], h.hF, h.hY, h.hC, (by have := h.nF; show F.length ≤ _; omega), (by have := h.nY; show Y.length ≤ _; omega), (by have := h.nC; show C.length ≤ _; omega), hp⟩
theorem jn_of {x : D} (hx : Xg x) (hz : xC x = 0) : Jn (x.cell 0).els (x.cell 1).els (x.cell 2).els (x.cell 3).els (x.cell 4).els (x.cell 5).els :=
 ⟨hx.hf, hx.hy, hx.hc, by have := (xC_zero hz).1; omega, by have := (xC_zero hz).2.1; omega, by have := (xC_zero hz).2.2.1; omega⟩
theorem firstF_ok (a b : D) (ha : Fg a) (hb : Fg b) : Cl ty tab 38 [a, b] = some [fst2 a b] := by
 have := s_local_first_38 0 a b rfl
 rwa [ha.eta, hb.eta] at this
theorem firstY_ok (a b : D) (ha : Yg a) (hb : Yg b) : Cl ty tab 41 [a, b] = some [fst2 a b] := by
 have := s_local_first_41 0 a b rfl
 have ea := ha.eta
 have eb := hb.eta
 unfold yKsE at ea eb
 rwa [ea, eb] at this
theorem firstC_ok (a b : D) (ha : Cg a) (hb : Cg b) : Cl ty tab 44 [a, b] = some [fst2 a b] := by
 have := s_local_first_44 0 (a.cell 0).i (b.cell 0).i rfl
 rwa [ha.eta, hb.eta] at this
abbrev joinZ : D := .pv [.ov 70 true [], .ov 73 true [], .ov 51 true [], .ov 58 true [], .ov 84 true [], .ov 64 true []]
section
variable (k : Nat) (l : List D) (i : Nat) (x : D) (a b c n m t : Bool) (F Y C o p q : List D) (ag : List D → Option (List D))
theorem join_fin (hl : l.length ≤ 20) (hi : i = l.length) (J : Jn F Y C o p q) (hp : Pay o p q) : local_Join.b0 (Cl ty tab) k l [.int .i64 i, joinZ, .pv [.ov 70 a F, .ov 73 b Y, .ov 51 c C, .sl 58 n o, .sl 84 m p, .sl 64 t q]] ag =
  some (if xC (rulD a b c n m t F Y C o p q) = 0 then [rulD a b c n m t F Y C o p q, .int .i64 0] else [nilRul, .int .i64 4]) := by
 have e : D.agg (etaList ks0 [.ov 70 a F, .ov 73 b Y, .ov 51 c C, .sl 58 n o, .sl 84 m p, .sl 64 t q] 0) = rulD a b c n m t F Y C o p q := rfl
 have c1 := localCheck_ok _ (xg_rul a b c n m t J hp)
 subst hi
 unfold local_Join.b0
 by_cases h : xC (rulD a b c n m t F Y C o p q) = 0
 · simp (disch := omega) only [gds, e, c1, h, ne_eq, not_true_eq_false]
 · simp (disch := omega) only [gds, e, c1, h, ne_eq, not_false_eq_true]
theorem join_step (hl : l.length ≤ 20) (hi : i < l.length) (hxi : l[i] = x) (hx : Xg x) (hz : xC x = 0) (hN : NnL (x.cell 4).els) (J : Jn F Y C o p q) (S : Sh o p q) :
  ∃ m' : Bool, ∀ ag, local_Join.b0 (Cl ty tab) k l [.int .i64 i, joinZ, .pv [.ov 70 a F, .ov 73 b Y, .ov 51 c C, .sl 58 n o, .sl 84 m p, .sl 64 t q]] ag =
   ag [.int .i64 ((i + 1 : Nat) : Int), joinZ, .pv [.ov 70 false (mF F (x.cell 0).els), .ov 73 false (mY Y (x.cell 1).els), .ov 51 false (mC C (x.cell 2).els), .sl 58 false (mO o (x.cell 3).els), .sl 84 m' (mP p (x.cell 4).els), .sl 64 false (mK q (x.cell 5).els)]] := by
 obtain ⟨f1, f2, f3, f4⟩ := xC_zero hz
 obtain ⟨m', hadd⟩ := add_ok n m t (x.cell 3).nb (x.cell 4).nb (x.cell 5).nb o p q _ _ _ S (sh_of hx.pay f4 hN)
 refine ⟨m', fun ag => ?_⟩
 have e : D.agg (etaCells ks0 x 0) = x := hx.eta
 have c1 := localCheck_ok x hx
 have p1 := s_local_byPrefix 0 (r := [.agg [.fn 86 [], .fn 91 []]]) rfl
 have p2 := s_local_byKey 0 (r := [.agg [.fn 92 [], .fn 95 []]]) rfl
 have p3 := s_local_byCustomer 0 (r := [.agg [.fn 90 [], .fn 96 []]]) rfl
 have j1 := J.nF; have j2 := J.nY; have j3 := J.nC
 have cF := mergeF_ok ordF fst2 a (x.cell 0).nb F (x.cell 0).els (fun d hd => by rcases hd with hd | hd; exact (J.hF d hd).eta; exact (hx.hf d hd).eta) (fun u v hu hv => (J.hF u hu).eta)
  (fun u v hu hv => byPrefix1_ok u v (J.hF u hu) (hx.hf v hv)) (fun u v hu hv => firstF_ok u v (J.hF u hu) (hx.hf v hv)) (by omega) (by omega)
 have cY := mergeY_ok ordY fst2 b (x.cell 1).nb Y (x.cell 1).els (fun d hd => by rcases hd with hd | hd; exact (J.hY d hd).eta; exact (hx.hy d hd).eta) (fun u v hu hv => (J.hY u hu).eta)
  (fun u v hu hv => byKey1_ok u v (J.hY u hu) (hx.hy v hv)) (fun u v hu hv => firstY_ok u v (J.hY u hu) (hx.hy v hv)) (by omega) (by omega)
 have cC := mergeC_ok ordC fst2 c (x.cell 2).nb C (x.cell 2).els (fun d hd => by rcases hd with hd | hd; exact (J.hC d hd).eta; exact (hx.hc d hd).eta) (fun u v hu hv => (J.hC u hu).eta)
  (fun u v hu hv => byCustomer_ok u v (J.hC u hu) (hx.hc v hv)) (fun u v hu hv => firstC_ok u v (J.hC u hu) (hx.hc v hv)) (by omega) (by omega)
 clear J S
 unfold local_Join.b0
 rw [show ((i + 1 : Nat) : Int) = (i : Int) + 1 by omega]
 simp (disch := omega) only [gds, getD_get, hxi, e, c1, hz, p1, p2, p3, cF, cY, cC, hadd, ne_eq, not_true_eq_false]
end
theorem nil_mrg (c : D → D → Int) (e : D → D → D) (b : List D) : mrg c e [] b = b := by rw [mrg]
theorem jn_nil : Jn [] [] [] [] [] [] := ⟨fun d h => (by cases h), fun d h => (by cases h), fun d h => (by cases h), (by simp), (by simp), (by simp)⟩
theorem sh_nil : Sh [] [] [] := ⟨⟨fun d h => (by cases h), fun d h => (by cases h), fun d h => (by cases h), (by simp), (by simp), (by simp)⟩, (by simp), (by simp), (by simp), fun d h => (by cases h), fun d h => (by cases h)⟩
section
variable (x : D) (hx : Xg x) (hN : NnL (x.cell 4).els)
include hx hN
theorem join1_ok : (xC x = 0 → ∃ m', Cl ty tab 12 [.sl 33 false [x]] = some [rulD false false false false m' false (x.cell 0).els (x.cell 1).els (x.cell 2).els (x.cell 3).els (x.cell 4).els (x.cell 5).els, .int .i64 0]) := by
 intro hz
 obtain ⟨m', h1⟩ := join_step 3 [x] 0 x true true true true true true [] [] [] [] [] [] (by simp) (by simp) rfl hx hz hN jn_nil sh_nil
 simp only [mF, mY, mC, mO, mP, mK, nil_mrg] at h1
 refine ⟨m', s_local_Join 3 false [x] ?_⟩
 unfold local_Join
 have hf := join_fin 3 [x] 1 false false false false m' false (x.cell 0).els (x.cell 1).els (x.cell 2).els (x.cell 3).els (x.cell 4).els (x.cell 5).els (iter 1 (local_Join.b0 (Cl ty tab) 3 [x])) (by simp) (by simp) (jn_of hx hz) hx.pay
 have hz' : xC (rulD false false false false m' false (x.cell 0).els (x.cell 1).els (x.cell 2).els (x.cell 3).els (x.cell 4).els (x.cell 5).els) = 0 := hz
 rw [if_pos hz'] at hf
 simp (disch := omega) only [gds, show ¬ ((20 : Int) < ((0 + 1 : Nat) : Int)) by omega]
 rw [iter]
 refine (h1 _).trans ?_
 rw [iter]
 exact hf
end
section
variable (x y : D) (hx : Xg x) (hN : NnL (x.cell 4).els) (hy : Xg y) (hN2 : NnL (y.cell 4).els)
include hx hN hy hN2
end
end Go.Proofs.YtapfhcnigmighaaGreat.Own
