import Derived.Test.YtapfhcnigmighaaLocal
namespace Go.Proofs.Ytapfhcnigmighaa.Own
open Go Go.Proofs.Ytapfhcnigmighaa.GD
set_option linter.unusedVariables false
set_option linter.unusedSimpArgs false

abbrev xKs : List Sk := [.sl 53, .sl 65, .sl 51, .sl 93, .sl 81, .sl 100]
abbrev xE (d : D) : List D := etaCells ks0 d 0
/-- rules -/
structure Xg (x : D) : Prop where
  fit : Vk.fits ⟨true, xKs⟩ x = true
  hf : ∀ d, d ∈ (x.cell 0).els → Fg d
  hy : ∀ d, d ∈ (x.cell 1).els → Yg d
  hc : ∀ d, d ∈ (x.cell 2).els → Cg d
  nf : (x.cell 0).els.length ≤ 9223372036854775807
  ny : (x.cell 1).els.length ≤ 9223372036854775807
  nc : (x.cell 2).els.length ≤ 9223372036854775807
  pay : Pay (x.cell 3).els (x.cell 4).els (x.cell 5).els
theorem Xg.eta {x : D} (h : Xg x) : D.agg (xE x) = x := eta_fit h.fit
theorem xEta (x : D) : etaList ks0 (xE x) 0 = xE x := etaList_eta ..
theorem xE0 (x : D) : (xE x).getD 0 .undef = .sl 53 (x.cell 0).nb (x.cell 0).els := rfl
theorem xE1 (x : D) : (xE x).getD 1 .undef = .sl 65 (x.cell 1).nb (x.cell 1).els := rfl
theorem xE2 (x : D) : (xE x).getD 2 .undef = .sl 51 (x.cell 2).nb (x.cell 2).els := rfl
theorem xE3 (x : D) : (xE x).getD 3 .undef = .sl 93 (x.cell 3).nb (x.cell 3).els := rfl
theorem xE4 (x : D) : (xE x).getD 4 .undef = .sl 81 (x.cell 4).nb (x.cell 4).els := rfl
theorem xE5 (x : D) : (xE x).getD 5 .undef = .sl 100 (x.cell 5).nb (x.cell 5).els := rfl

noncomputable def xC (x : D) : Int :=
  if 100 < (x.cell 0).els.length ∨ 100 < (x.cell 1).els.length ∨ 100 < (x.cell 2).els.length then 4
  else if risF goodF ltF (x.cell 0).els = true ∧ risF goodY ltY (x.cell 1).els = true ∧ risF goodC ltC (x.cell 2).els = true then payC (x.cell 3).els (x.cell 4).els (x.cell 5).els else 8

theorem localCheck_ok (x : D) (h : Xg x) : Cl ty tab 6 [x] = some [.int .i64 (xC x)] := by
  have := s_local_Check 0 x (r := [.int .i64 (xC x)]) ?_
  · rwa [h.eta] at this
  unfold local_Check xC
  have p1 := s_local_byPrefix 0 (r := [.agg [.fn 26 [], .fn 31 []]]) rfl
  have p2 := s_local_byKey 0 (r := [.agg [.fn 33 [], .fn 36 []]]) rfl
  have p3 := s_local_byCustomer 0 (r := [.agg [.fn 30 [], .fn 37 []]]) rfl
  have mx : ∀ a b c : Nat, decide ((100 : Int) < (if (if ((a : Nat) : Int) < (b : Nat) then ((b : Nat) : Int) else (a : Nat)) < ((c : Nat) : Int) then ((c : Nat) : Int) else (if ((a : Nat) : Int) < (b : Nat) then ((b : Nat) : Int) else (a : Nat)))) = decide (100 < a ∨ 100 < b ∨ 100 < c) := fun a b c => by
    simp only [decide_eq_decide]
    split <;> split <;> omega
  rw [mx]
  by_cases h0 : 100 < (x.cell 0).els.length ∨ 100 < (x.cell 1).els.length ∨ 100 < (x.cell 2).els.length
  · rw [if_pos h0]
    simp only [h0, decide_true, ct]
  rw [if_neg h0]
  have cF := checkF_ok (x.cell 0).nb (x.cell 0).els h.hf h.nf
  have cY := checkY_ok (x.cell 1).nb (x.cell 1).els h.hy h.ny
  have cC := checkC_ok (x.cell 2).nb (x.cell 2).els h.hc h.nc
  have cP := diffCheck_ok (x.cell 3).nb (x.cell 4).nb (x.cell 5).nb (x.cell 3).els (x.cell 4).els (x.cell 5).els h.pay
  simp only [h0, decide_false, cf]
  clear mx
  cases h1 : risF goodF ltF (x.cell 0).els <;> cases h2 : risF goodY ltY (x.cell 1).els <;> cases h3 : risF goodC ltC (x.cell 2).els <;>
    simp (disch := omega) only [decide_true, decide_false, if_true, if_false, Bool.false_eq_true, Bool.true_eq_false, eq_self, Bool.true_or, Bool.false_or, Bool.true_and, Bool.false_and, Bool.or_true, Bool.or_false, Bool.and_true, Bool.and_false, List.getD_cons_zero, List.getD_cons_succ, cell_int, cell_bool, cell_str, cell_sl, cell_agg, i_int, b_bool, s_str, nb_sl, els_sl, nb_ov, els_ov, cs_pv, cs_agg, Int.toNat_natCast, toNat_sub1, toNat_add1, List.length_map, getD_map, ct, cf, beqd, bned, cp, cn, cnp, cnn, if_pos, if_neg, wrap64, Option.bind_some, Bool.not_true, Bool.not_false, List.isEmpty_nil, List.nil_append, List.length_nil, List.length_cons, Nat.zero_add, p1, p2, p3, cF, cY, cC, cP, h1, h2, h3, and_self, and_false, false_and]

section
variable (k : Nat) (hk : 9223372036854775809 < k) (x : D) (h : Xg x)
include hk h

theorem r43b2 : iter k (gatepathref43_Check.b2 (Cl ty tab) k) [.int .i64 1, .pv (xE x)] = if risF goodC ltC (x.cell 2).els = true then some [.int .i64 (payC (x.cell 3).els (x.cell 4).els (x.cell 5).els)] else some [.int .i64 8] := by
  have hn := h.nc
  have hP := r34Check_ok (x.cell 3).nb (x.cell 4).nb (x.cell 5).nb (x.cell 3).els (x.cell 4).els (x.cell 5).els h.pay
  have := ris_loop1 (F := gatepathref43_Check.b2 (Cl ty tab) k) (x.cell 2).els ltC (fun i => [.int .i64 i, .pv (xE x)]) (some [.int .i64 8]) (some [.int .i64 (payC (x.cell 3).els (x.cell 4).els (x.cell 5).els)]) (fun i h1 hi again => ?_) (fun i hi hi2 again => ?_) k (by omega)
  · rw [show goodC = fun _ => true from rfl]
    simpa using this
  · unfold gatepathref43_Check.b2
    have hi1 : i - 1 < (x.cell 2).els.length := by omega
    have el : ∀ a b : D, ltC a b = decide ((a.cell 0).i < (b.cell 0).i) := fun a b => by unfold ltC ordC; simp only [sgn_lt]
    by_cases hlt : ((x.cell 2).els[i - 1].cell 0).i < ((x.cell 2).els[i].cell 0).i
    · have hn : ¬ ((x.cell 2).els[i].cell 0).i ≤ ((x.cell 2).els[i - 1].cell 0).i := by omega
      simp (disch := omega) only [decide_true, decide_false, if_true, if_false, Bool.false_eq_true, Bool.true_eq_false, eq_self, Bool.true_or, Bool.false_or, Bool.true_and, Bool.false_and, Bool.or_true, Bool.or_false, Bool.and_true, Bool.and_false, List.getD_cons_zero, List.getD_cons_succ, cell_int, cell_bool, cell_str, cell_sl, cell_agg, i_int, b_bool, s_str, nb_sl, els_sl, nb_ov, els_ov, cs_pv, cs_agg, Int.toNat_natCast, toNat_sub1, toNat_add1, List.length_map, getD_map, ct, cf, beqd, bned, cp, cn, cnp, cnn, if_pos, if_neg, wrap64, Option.bind_some, Bool.not_true, Bool.not_false, List.isEmpty_nil, List.nil_append, List.length_nil, List.length_cons, Nat.zero_add, xE2, xEta, getD_get, el, hlt, hn, Int.natCast_add, Int.natCast_one]
    · have hn : ((x.cell 2).els[i].cell 0).i ≤ ((x.cell 2).els[i - 1].cell 0).i := by omega
      simp (disch := omega) only [decide_true, decide_false, if_true, if_false, Bool.false_eq_true, Bool.true_eq_false, eq_self, Bool.true_or, Bool.false_or, Bool.true_and, Bool.false_and, Bool.or_true, Bool.or_false, Bool.and_true, Bool.and_false, List.getD_cons_zero, List.getD_cons_succ, cell_int, cell_bool, cell_str, cell_sl, cell_agg, i_int, b_bool, s_str, nb_sl, els_sl, nb_ov, els_ov, cs_pv, cs_agg, Int.toNat_natCast, toNat_sub1, toNat_add1, List.length_map, getD_map, ct, cf, beqd, bned, cp, cn, cnp, cnn, if_pos, if_neg, wrap64, Option.bind_some, Bool.not_true, Bool.not_false, List.isEmpty_nil, List.nil_append, List.length_nil, List.length_cons, Nat.zero_add, xE2, xEta, getD_get, el, hlt, hn, Int.natCast_add, Int.natCast_one]
  · unfold gatepathref43_Check.b2
    simp (disch := omega) only [decide_true, decide_false, if_true, if_false, Bool.false_eq_true, Bool.true_eq_false, eq_self, Bool.true_or, Bool.false_or, Bool.true_and, Bool.false_and, Bool.or_true, Bool.or_false, Bool.and_true, Bool.and_false, List.getD_cons_zero, List.getD_cons_succ, cell_int, cell_bool, cell_str, cell_sl, cell_agg, i_int, b_bool, s_str, nb_sl, els_sl, nb_ov, els_ov, cs_pv, cs_agg, Int.toNat_natCast, toNat_sub1, toNat_add1, List.length_map, getD_map, ct, cf, beqd, bned, cp, cn, cnp, cnn, if_pos, if_neg, wrap64, Option.bind_some, Bool.not_true, Bool.not_false, List.isEmpty_nil, List.nil_append, List.length_nil, List.length_cons, Nat.zero_add, xE2, xE3, xE4, xE5, hP]

theorem r43b1 : iter k (gatepathref43_Check.b1 (Cl ty tab) k) [.int .i64 0, .pv (xE x)] = if risF goodY ltY (x.cell 1).els = true then (if risF goodC ltC (x.cell 2).els = true then some [.int .i64 (payC (x.cell 3).els (x.cell 4).els (x.cell 5).els)] else some [.int .i64 8]) else some [.int .i64 8] := by
  have hn := h.ny
  have hE : ∀ d, d ∈ (x.cell 1).els → D.agg (yKsE d 0) = d := fun d hd => (h.hy d hd).eta
  have hb := r43b2 k hk x h
  rw [risF_congr (g1 := goodY) (g2 := goodY) (lt1 := ltY) (lt2 := ltYW) (fun _ _ => rfl) (fun a b _ _ ga gb => (ltYW_good ga gb).symm)]
  refine ris_loop (F := gatepathref43_Check.b1 (Cl ty tab) k) (x.cell 1).els goodY ltYW (fun i => [.int .i64 i, .pv (xE x)]) (some [.int .i64 8]) _ (fun i hi again => ?_) (fun again => ?_) k (by omega)
  · unfold gatepathref43_Check.b1
    have e0 := hE _ (List.getElem_mem hi)
    have y0 := h.hy _ (List.getElem_mem hi)
    have g0 := rgoodKey_ok _ y0
    cases hg : goodY (x.cell 1).els[i]
    · simp (disch := omega) only [decide_true, decide_false, if_true, if_false, Bool.false_eq_true, Bool.true_eq_false, eq_self, Bool.true_or, Bool.false_or, Bool.true_and, Bool.false_and, Bool.or_true, Bool.or_false, Bool.and_true, Bool.and_false, List.getD_cons_zero, List.getD_cons_succ, cell_int, cell_bool, cell_str, cell_sl, cell_agg, i_int, b_bool, s_str, nb_sl, els_sl, nb_ov, els_ov, cs_pv, cs_agg, Int.toNat_natCast, toNat_sub1, toNat_add1, List.length_map, getD_map, ct, cf, beqd, bned, cp, cn, cnp, cnn, if_pos, if_neg, wrap64, Option.bind_some, Bool.not_true, Bool.not_false, List.isEmpty_nil, List.nil_append, List.length_nil, List.length_cons, Nat.zero_add, xE1, xEta, getD_get, e0, g0, hg, false_and]
    by_cases h0 : i = 0
    · subst h0
      simp (disch := omega) only [decide_true, decide_false, if_true, if_false, Bool.false_eq_true, Bool.true_eq_false, eq_self, Bool.true_or, Bool.false_or, Bool.true_and, Bool.false_and, Bool.or_true, Bool.or_false, Bool.and_true, Bool.and_false, List.getD_cons_zero, List.getD_cons_succ, cell_int, cell_bool, cell_str, cell_sl, cell_agg, i_int, b_bool, s_str, nb_sl, els_sl, nb_ov, els_ov, cs_pv, cs_agg, Int.toNat_natCast, toNat_sub1, toNat_add1, List.length_map, getD_map, ct, cf, beqd, bned, cp, cn, cnp, cnn, if_pos, if_neg, wrap64, Option.bind_some, Bool.not_true, Bool.not_false, List.isEmpty_nil, List.nil_append, List.length_nil, List.length_cons, Nat.zero_add, xE1, xEta, getD_get, e0, g0, hg, true_and, true_or, Int.natCast_zero, Int.toNat_zero, Int.zero_add, Int.natCast_one]
    · have hi1 : i - 1 < (x.cell 1).els.length := by omega
      have e1 := hE _ (List.getElem_mem hi1)
      have k0 := keyKey_ok _ y0
      have k1 := keyKey_ok _ (h.hy _ (List.getElem_mem hi1))
      have ls := less_ok false false (numsYW (x.cell 1).els[i - 1]) (numsYW (x.cell 1).els[i]) (by simp [numsYW, rootN_len]) (by simp [numsYW, rootN_len])
      have el : ltYW (x.cell 1).els[i - 1] (x.cell 1).els[i] = decide (cmpL (numsYW (x.cell 1).els[i - 1]) (numsYW (x.cell 1).els[i]) < 0) := rfl
      by_cases hlt : cmpL (numsYW (x.cell 1).els[i - 1]) (numsYW (x.cell 1).els[i]) < 0
      · simp (disch := omega) only [decide_true, decide_false, if_true, if_false, Bool.false_eq_true, Bool.true_eq_false, eq_self, Bool.true_or, Bool.false_or, Bool.true_and, Bool.false_and, Bool.or_true, Bool.or_false, Bool.and_true, Bool.and_false, List.getD_cons_zero, List.getD_cons_succ, cell_int, cell_bool, cell_str, cell_sl, cell_agg, i_int, b_bool, s_str, nb_sl, els_sl, nb_ov, els_ov, cs_pv, cs_agg, Int.toNat_natCast, toNat_sub1, toNat_add1, List.length_map, getD_map, ct, cf, beqd, bned, cp, cn, cnp, cnn, if_pos, if_neg, wrap64, Option.bind_some, Bool.not_true, Bool.not_false, List.isEmpty_nil, List.nil_append, List.length_nil, List.length_cons, Nat.zero_add, xE1, xEta, getD_get, e0, e1, g0, hg, k0, k1, ls, el, hlt, h0, true_and, false_or, Int.natCast_add, Int.natCast_one]
      · simp (disch := omega) only [decide_true, decide_false, if_true, if_false, Bool.false_eq_true, Bool.true_eq_false, eq_self, Bool.true_or, Bool.false_or, Bool.true_and, Bool.false_and, Bool.or_true, Bool.or_false, Bool.and_true, Bool.and_false, List.getD_cons_zero, List.getD_cons_succ, cell_int, cell_bool, cell_str, cell_sl, cell_agg, i_int, b_bool, s_str, nb_sl, els_sl, nb_ov, els_ov, cs_pv, cs_agg, Int.toNat_natCast, toNat_sub1, toNat_add1, List.length_map, getD_map, ct, cf, beqd, bned, cp, cn, cnp, cnn, if_pos, if_neg, wrap64, Option.bind_some, Bool.not_true, Bool.not_false, List.isEmpty_nil, List.nil_append, List.length_nil, List.length_cons, Nat.zero_add, xE1, xEta, getD_get, e0, e1, g0, hg, k0, k1, ls, el, hlt, h0, true_and, false_or, Int.natCast_add, Int.natCast_one]
  · unfold gatepathref43_Check.b1
    simp (disch := omega) only [decide_true, decide_false, if_true, if_false, Bool.false_eq_true, Bool.true_eq_false, eq_self, Bool.true_or, Bool.false_or, Bool.true_and, Bool.false_and, Bool.or_true, Bool.or_false, Bool.and_true, Bool.and_false, List.getD_cons_zero, List.getD_cons_succ, cell_int, cell_bool, cell_str, cell_sl, cell_agg, i_int, b_bool, s_str, nb_sl, els_sl, nb_ov, els_ov, cs_pv, cs_agg, Int.toNat_natCast, toNat_sub1, toNat_add1, List.length_map, getD_map, ct, cf, beqd, bned, cp, cn, cnp, cnn, if_pos, if_neg, wrap64, Option.bind_some, Bool.not_true, Bool.not_false, List.isEmpty_nil, List.nil_append, List.length_nil, List.length_cons, Nat.zero_add, xE1, xEta, hb]

theorem r43b0 : iter k (gatepathref43_Check.b0 (Cl ty tab) k) [.int .i64 0, .pv (xE x)] = if risF goodF ltF (x.cell 0).els = true then (if risF goodY ltY (x.cell 1).els = true then (if risF goodC ltC (x.cell 2).els = true then some [.int .i64 (payC (x.cell 3).els (x.cell 4).els (x.cell 5).els)] else some [.int .i64 8]) else some [.int .i64 8]) else some [.int .i64 8] := by
  have hn := h.nf
  have hE : ∀ d, d ∈ (x.cell 0).els → D.agg (etaCells ks1 d 0) = d := fun d hd => (h.hf d hd).eta
  have hb := r43b1 k hk x h
  rw [risF_congr (g1 := goodF) (g2 := goodF) (lt1 := ltF) (lt2 := ltFW) (fun _ _ => rfl) (fun a b _ _ ga gb => (ltFW_good ga gb).symm)]
  refine ris_loop (F := gatepathref43_Check.b0 (Cl ty tab) k) (x.cell 0).els goodF ltFW (fun i => [.int .i64 i, .pv (xE x)]) (some [.int .i64 8]) _ (fun i hi again => ?_) (fun again => ?_) k (by omega)
  · unfold gatepathref43_Check.b0
    have e0 := hE _ (List.getElem_mem hi)
    have y0 := h.hf _ (List.getElem_mem hi)
    have g0 := rgoodPrefix_ok _ y0
    cases hg : goodF (x.cell 0).els[i]
    · simp (disch := omega) only [decide_true, decide_false, if_true, if_false, Bool.false_eq_true, Bool.true_eq_false, eq_self, Bool.true_or, Bool.false_or, Bool.true_and, Bool.false_and, Bool.or_true, Bool.or_false, Bool.and_true, Bool.and_false, List.getD_cons_zero, List.getD_cons_succ, cell_int, cell_bool, cell_str, cell_sl, cell_agg, i_int, b_bool, s_str, nb_sl, els_sl, nb_ov, els_ov, cs_pv, cs_agg, Int.toNat_natCast, toNat_sub1, toNat_add1, List.length_map, getD_map, ct, cf, beqd, bned, cp, cn, cnp, cnn, if_pos, if_neg, wrap64, Option.bind_some, Bool.not_true, Bool.not_false, List.isEmpty_nil, List.nil_append, List.length_nil, List.length_cons, Nat.zero_add, xE0, xEta, getD_get, e0, g0, hg, false_and]
    by_cases h0 : i = 0
    · subst h0
      simp (disch := omega) only [decide_true, decide_false, if_true, if_false, Bool.false_eq_true, Bool.true_eq_false, eq_self, Bool.true_or, Bool.false_or, Bool.true_and, Bool.false_and, Bool.or_true, Bool.or_false, Bool.and_true, Bool.and_false, List.getD_cons_zero, List.getD_cons_succ, cell_int, cell_bool, cell_str, cell_sl, cell_agg, i_int, b_bool, s_str, nb_sl, els_sl, nb_ov, els_ov, cs_pv, cs_agg, Int.toNat_natCast, toNat_sub1, toNat_add1, List.length_map, getD_map, ct, cf, beqd, bned, cp, cn, cnp, cnn, if_pos, if_neg, wrap64, Option.bind_some, Bool.not_true, Bool.not_false, List.isEmpty_nil, List.nil_append, List.length_nil, List.length_cons, Nat.zero_add, xE0, xEta, getD_get, e0, g0, hg, true_and, true_or, Int.natCast_zero, Int.toNat_zero, Int.zero_add, Int.natCast_one]
    · have hi1 : i - 1 < (x.cell 0).els.length := by omega
      have e1 := hE _ (List.getElem_mem hi1)
      have k0 := prefixKey_ok _ y0
      have k1 := prefixKey_ok _ (h.hf _ (List.getElem_mem hi1))
      have ls := less_ok false false (numsFW (x.cell 0).els[i - 1]) (numsFW (x.cell 0).els[i]) (by simp [numsFW]) (by simp [numsFW])
      have el : ltFW (x.cell 0).els[i - 1] (x.cell 0).els[i] = decide (cmpL (numsFW (x.cell 0).els[i - 1]) (numsFW (x.cell 0).els[i]) < 0) := rfl
      by_cases hlt : cmpL (numsFW (x.cell 0).els[i - 1]) (numsFW (x.cell 0).els[i]) < 0
      · simp (disch := omega) only [decide_true, decide_false, if_true, if_false, Bool.false_eq_true, Bool.true_eq_false, eq_self, Bool.true_or, Bool.false_or, Bool.true_and, Bool.false_and, Bool.or_true, Bool.or_false, Bool.and_true, Bool.and_false, List.getD_cons_zero, List.getD_cons_succ, cell_int, cell_bool, cell_str, cell_sl, cell_agg, i_int, b_bool, s_str, nb_sl, els_sl, nb_ov, els_ov, cs_pv, cs_agg, Int.toNat_natCast, toNat_sub1, toNat_add1, List.length_map, getD_map, ct, cf, beqd, bned, cp, cn, cnp, cnn, if_pos, if_neg, wrap64, Option.bind_some, Bool.not_true, Bool.not_false, List.isEmpty_nil, List.nil_append, List.length_nil, List.length_cons, Nat.zero_add, xE0, xEta, getD_get, e0, e1, g0, hg, k0, k1, ls, el, hlt, h0, true_and, false_or, Int.natCast_add, Int.natCast_one]
      · simp (disch := omega) only [decide_true, decide_false, if_true, if_false, Bool.false_eq_true, Bool.true_eq_false, eq_self, Bool.true_or, Bool.false_or, Bool.true_and, Bool.false_and, Bool.or_true, Bool.or_false, Bool.and_true, Bool.and_false, List.getD_cons_zero, List.getD_cons_succ, cell_int, cell_bool, cell_str, cell_sl, cell_agg, i_int, b_bool, s_str, nb_sl, els_sl, nb_ov, els_ov, cs_pv, cs_agg, Int.toNat_natCast, toNat_sub1, toNat_add1, List.length_map, getD_map, ct, cf, beqd, bned, cp, cn, cnp, cnn, if_pos, if_neg, wrap64, Option.bind_some, Bool.not_true, Bool.not_false, List.isEmpty_nil, List.nil_append, List.length_nil, List.length_cons, Nat.zero_add, xE0, xEta, getD_get, e0, e1, g0, hg, k0, k1, ls, el, hlt, h0, true_and, false_or, Int.natCast_add, Int.natCast_one]
  · unfold gatepathref43_Check.b0
    simp (disch := omega) only [decide_true, decide_false, if_true, if_false, Bool.false_eq_true, Bool.true_eq_false, eq_self, Bool.true_or, Bool.false_or, Bool.true_and, Bool.false_and, Bool.or_true, Bool.or_false, Bool.and_true, Bool.and_false, List.getD_cons_zero, List.getD_cons_succ, cell_int, cell_bool, cell_str, cell_sl, cell_agg, i_int, b_bool, s_str, nb_sl, els_sl, nb_ov, els_ov, cs_pv, cs_agg, Int.toNat_natCast, toNat_sub1, toNat_add1, List.length_map, getD_map, ct, cf, beqd, bned, cp, cn, cnp, cnn, if_pos, if_neg, wrap64, Option.bind_some, Bool.not_true, Bool.not_false, List.isEmpty_nil, List.nil_append, List.length_nil, List.length_cons, Nat.zero_add, xE0, xEta, hb]

omit hk in
theorem r43Check_ok : Cl ty tab 7 [x] = some [.int .i64 (xC x)] := by
  obtain ⟨k, hk⟩ : ∃ k : Nat, 9223372036854775809 < k := ⟨_, Nat.lt_succ_self _⟩
  have := s_gatepathref43_Check k x (r := [.int .i64 (xC x)]) ?_
  · rwa [h.eta] at this
  unfold gatepathref43_Check xC
  have hb := r43b0 k hk x h
  by_cases h0 : 100 < (x.cell 0).els.length
  · simp (disch := omega) only [decide_true, decide_false, if_true, if_false, Bool.false_eq_true, Bool.true_eq_false, eq_self, Bool.true_or, Bool.false_or, Bool.true_and, Bool.false_and, Bool.or_true, Bool.or_false, Bool.and_true, Bool.and_false, List.getD_cons_zero, List.getD_cons_succ, cell_int, cell_bool, cell_str, cell_sl, cell_agg, i_int, b_bool, s_str, nb_sl, els_sl, nb_ov, els_ov, cs_pv, cs_agg, Int.toNat_natCast, toNat_sub1, toNat_add1, List.length_map, getD_map, ct, cf, beqd, bned, cp, cn, cnp, cnn, if_pos, if_neg, wrap64, Option.bind_some, Bool.not_true, Bool.not_false, List.isEmpty_nil, List.nil_append, List.length_nil, List.length_cons, Nat.zero_add, h0, true_or]
  by_cases h1 : 100 < (x.cell 1).els.length
  · simp (disch := omega) only [decide_true, decide_false, if_true, if_false, Bool.false_eq_true, Bool.true_eq_false, eq_self, Bool.true_or, Bool.false_or, Bool.true_and, Bool.false_and, Bool.or_true, Bool.or_false, Bool.and_true, Bool.and_false, List.getD_cons_zero, List.getD_cons_succ, cell_int, cell_bool, cell_str, cell_sl, cell_agg, i_int, b_bool, s_str, nb_sl, els_sl, nb_ov, els_ov, cs_pv, cs_agg, Int.toNat_natCast, toNat_sub1, toNat_add1, List.length_map, getD_map, ct, cf, beqd, bned, cp, cn, cnp, cnn, if_pos, if_neg, wrap64, Option.bind_some, Bool.not_true, Bool.not_false, List.isEmpty_nil, List.nil_append, List.length_nil, List.length_cons, Nat.zero_add, h0, h1, true_or, or_true]
  by_cases h2 : 100 < (x.cell 2).els.length
  · simp (disch := omega) only [decide_true, decide_false, if_true, if_false, Bool.false_eq_true, Bool.true_eq_false, eq_self, Bool.true_or, Bool.false_or, Bool.true_and, Bool.false_and, Bool.or_true, Bool.or_false, Bool.and_true, Bool.and_false, List.getD_cons_zero, List.getD_cons_succ, cell_int, cell_bool, cell_str, cell_sl, cell_agg, i_int, b_bool, s_str, nb_sl, els_sl, nb_ov, els_ov, cs_pv, cs_agg, Int.toNat_natCast, toNat_sub1, toNat_add1, List.length_map, getD_map, ct, cf, beqd, bned, cp, cn, cnp, cnn, if_pos, if_neg, wrap64, Option.bind_some, Bool.not_true, Bool.not_false, List.isEmpty_nil, List.nil_append, List.length_nil, List.length_cons, Nat.zero_add, h0, h1, h2, true_or, or_true]
  cases h4 : risF goodF ltF (x.cell 0).els <;> cases h5 : risF goodY ltY (x.cell 1).els <;> cases h6 : risF goodC ltC (x.cell 2).els <;>
    simp (disch := omega) only [decide_true, decide_false, if_true, if_false, Bool.false_eq_true, Bool.true_eq_false, eq_self, Bool.true_or, Bool.false_or, Bool.true_and, Bool.false_and, Bool.or_true, Bool.or_false, Bool.and_true, Bool.and_false, List.getD_cons_zero, List.getD_cons_succ, cell_int, cell_bool, cell_str, cell_sl, cell_agg, i_int, b_bool, s_str, nb_sl, els_sl, nb_ov, els_ov, cs_pv, cs_agg, Int.toNat_natCast, toNat_sub1, toNat_add1, List.length_map, getD_map, ct, cf, beqd, bned, cp, cn, cnp, cnn, if_pos, if_neg, wrap64, Option.bind_some, Bool.not_true, Bool.not_false, List.isEmpty_nil, List.nil_append, List.length_nil, List.length_cons, Nat.zero_add, h0, h1, h2, hb, h4, h5, h6, or_self, and_self, and_false, false_and]
end

/-! great rules, copies, equality -/
structure SmallX (x : D) : Prop where
  f : (x.cell 0).els.length ≤ 120
  y : (x.cell 1).els.length ≤ 120
  c : (x.cell 2).els.length ≤ 120
  pay : Small (x.cell 3).els (x.cell 4).els (x.cell 5).els

theorem Great43_ok (x : D) (h : Xg x) : ∃ b, Cl ty tab 4 [x] = some [.bool b] ∧ (b = false → SmallX x) := by
  obtain ⟨b, hb, hs⟩ := Great34_ok (x.cell 3).nb (x.cell 4).nb (x.cell 5).nb (x.cell 3).els (x.cell 4).els (x.cell 5).els h.pay
  have key : ∀ r, gatepathref43_Great (Cl ty tab) 0 x = some [.bool r] → Cl ty tab 4 [x] = some [.bool r] := fun r hr => by
    have := s_gatepathref43_Great 0 x hr
    rwa [h.eta] at this
  unfold gatepathref43_Great at key
  by_cases h0 : 120 < (x.cell 0).els.length
  · exact ⟨true, key _ (by simp (disch := omega) only [decide_true, decide_false, if_true, if_false, Bool.false_eq_true, Bool.true_eq_false, eq_self, Bool.true_or, Bool.false_or, Bool.true_and, Bool.false_and, Bool.or_true, Bool.or_false, Bool.and_true, Bool.and_false, List.getD_cons_zero, List.getD_cons_succ, cell_int, cell_bool, cell_str, cell_sl, cell_agg, i_int, b_bool, s_str, nb_sl, els_sl, nb_ov, els_ov, cs_pv, cs_agg, Int.toNat_natCast, toNat_sub1, toNat_add1, List.length_map, getD_map, ct, cf, beqd, bned, cp, cn, cnp, cnn, if_pos, if_neg, wrap64, Option.bind_some, Bool.not_true, Bool.not_false, List.isEmpty_nil, List.nil_append, List.length_nil, List.length_cons, Nat.zero_add, h0]), fun h => by cases h⟩
  by_cases h1 : 120 < (x.cell 1).els.length
  · exact ⟨true, key _ (by simp (disch := omega) only [decide_true, decide_false, if_true, if_false, Bool.false_eq_true, Bool.true_eq_false, eq_self, Bool.true_or, Bool.false_or, Bool.true_and, Bool.false_and, Bool.or_true, Bool.or_false, Bool.and_true, Bool.and_false, List.getD_cons_zero, List.getD_cons_succ, cell_int, cell_bool, cell_str, cell_sl, cell_agg, i_int, b_bool, s_str, nb_sl, els_sl, nb_ov, els_ov, cs_pv, cs_agg, Int.toNat_natCast, toNat_sub1, toNat_add1, List.length_map, getD_map, ct, cf, beqd, bned, cp, cn, cnp, cnn, if_pos, if_neg, wrap64, Option.bind_some, Bool.not_true, Bool.not_false, List.isEmpty_nil, List.nil_append, List.length_nil, List.length_cons, Nat.zero_add, h0, h1]), fun h => by cases h⟩
  by_cases h2 : 120 < (x.cell 2).els.length
  · exact ⟨true, key _ (by simp (disch := omega) only [decide_true, decide_false, if_true, if_false, Bool.false_eq_true, Bool.true_eq_false, eq_self, Bool.true_or, Bool.false_or, Bool.true_and, Bool.false_and, Bool.or_true, Bool.or_false, Bool.and_true, Bool.and_false, List.getD_cons_zero, List.getD_cons_succ, cell_int, cell_bool, cell_str, cell_sl, cell_agg, i_int, b_bool, s_str, nb_sl, els_sl, nb_ov, els_ov, cs_pv, cs_agg, Int.toNat_natCast, toNat_sub1, toNat_add1, List.length_map, getD_map, ct, cf, beqd, bned, cp, cn, cnp, cnn, if_pos, if_neg, wrap64, Option.bind_some, Bool.not_true, Bool.not_false, List.isEmpty_nil, List.nil_append, List.length_nil, List.length_cons, Nat.zero_add, h0, h1, h2]), fun h => by cases h⟩
  exact ⟨b, key _ (by simp (disch := omega) only [decide_true, decide_false, if_true, if_false, Bool.false_eq_true, Bool.true_eq_false, eq_self, Bool.true_or, Bool.false_or, Bool.true_and, Bool.false_and, Bool.or_true, Bool.or_false, Bool.and_true, Bool.and_false, List.getD_cons_zero, List.getD_cons_succ, cell_int, cell_bool, cell_str, cell_sl, cell_agg, i_int, b_bool, s_str, nb_sl, els_sl, nb_ov, els_ov, cs_pv, cs_agg, Int.toNat_natCast, toNat_sub1, toNat_add1, List.length_map, getD_map, ct, cf, beqd, bned, cp, cn, cnp, cnn, if_pos, if_neg, wrap64, Option.bind_some, Bool.not_true, Bool.not_false, List.isEmpty_nil, List.nil_append, List.length_nil, List.length_cons, Nat.zero_add, h0, h1, h2, hb]), fun e => ⟨by omega, by omega, by omega, hs e⟩⟩

def twinX (x : D) : D := .agg [.sl 53 false (x.cell 0).els, .sl 65 false (x.cell 1).els, .sl 51 false (x.cell 2).els, .sl 93 false (x.cell 3).els, .sl 81 (x.cell 4).els.isEmpty ((x.cell 4).els.map twinP), .sl 100 false (x.cell 5).els]

theorem twin43_ok (x : D) (h : Xg x) (hs : SmallX x) : Cl ty tab 5 [x] = some [twinX x] := by
  have := s_gatepathref43_Twin 0 x (r := [twinX x]) ?_
  · rwa [h.eta] at this
  unfold gatepathref43_Twin
  have ht := twin34_ok (x.cell 3).nb (x.cell 4).nb (x.cell 5).nb (x.cell 3).els (x.cell 4).els (x.cell 5).els hs.pay
  have h1 := hs.f; have h2 := hs.y; have h3 := hs.c
  simp (disch := omega) only [decide_true, decide_false, if_true, if_false, Bool.false_eq_true, Bool.true_eq_false, eq_self, Bool.true_or, Bool.false_or, Bool.true_and, Bool.false_and, Bool.or_true, Bool.or_false, Bool.and_true, Bool.and_false, List.getD_cons_zero, List.getD_cons_succ, cell_int, cell_bool, cell_str, cell_sl, cell_agg, i_int, b_bool, s_str, nb_sl, els_sl, nb_ov, els_ov, cs_pv, cs_agg, Int.toNat_natCast, toNat_sub1, toNat_add1, List.length_map, getD_map, ct, cf, beqd, bned, cp, cn, cnp, cnn, if_pos, if_neg, wrap64, Option.bind_some, Bool.not_true, Bool.not_false, List.isEmpty_nil, List.nil_append, List.length_nil, List.length_cons, Nat.zero_add, ht]
  rfl

theorem xg_twin {x : D} (h : Xg x) : Xg (twinX x) where
  fit := by simp [twinX, Vk.fits, fitsL, fits]
  hf := h.hf
  hy := h.hy
  hc := h.hc
  nf := h.nf
  ny := h.ny
  nc := h.nc
  pay := ⟨h.pay.ho, fun d hd => by
    obtain ⟨d', h1, rfl⟩ := List.mem_map.1 (show d ∈ (x.cell 4).els.map twinP from hd)
    exact ⟨pg_twin (h.pay.hp d' h1).1, (h.pay.hp d' h1).2⟩, h.pay.hq, h.pay.no, by
    have := h.pay.np
    show ((x.cell 4).els.map twinP).length ≤ _
    rw [List.length_map]; exact this, h.pay.nq⟩

/-- rules alike but for what is nil -/
def SameX (a b : D) : Prop := (a.cell 0).els = (b.cell 0).els ∧ (a.cell 1).els = (b.cell 1).els ∧ (a.cell 2).els = (b.cell 2).els ∧ (a.cell 3).els = (b.cell 3).els ∧ (a.cell 4).els.map pk = (b.cell 4).els.map pk ∧ (a.cell 5).els = (b.cell 5).els

theorem sameX_twin (x : D) : SameX x (twinX x) := ⟨rfl, rfl, rfl, rfl, by
  show (x.cell 4).els.map pk = ((x.cell 4).els.map twinP).map pk
  rw [List.map_map]; rfl, rfl⟩

section
variable (k : Nat) (hk : 9223372036854775808 < k) (a b : D) (ha : Xg a) (hb : Xg b)
include hk ha hb

theorem same43b2 (h2 : (a.cell 2).els.length = (b.cell 2).els.length) : ∃ r : Bool, iter k (gatepathref43_Same.b2 (Cl ty tab) k) [.int .i64 0, .pv (xE a), .pv (xE b)] = some [.bool r] ∧ (r = true ↔ (a.cell 2).els = (b.cell 2).els ∧ (a.cell 3).els = (b.cell 3).els ∧ (a.cell 4).els.map pk = (b.cell 4).els.map pk ∧ (a.cell 5).els = (b.cell 5).els) := by
  have hn := ha.nc
  obtain ⟨r2, g2, g3⟩ := same34_ok (a.cell 3).nb (a.cell 4).nb (a.cell 5).nb (b.cell 3).nb (b.cell 4).nb (b.cell 5).nb (a.cell 3).els (a.cell 4).els (a.cell 5).els (b.cell 3).els (b.cell 4).els (b.cell 5).els ha.pay hb.pay
  have hx := all_loop (F := gatepathref43_Same.b2 (Cl ty tab) k) (a.cell 2).els.length (fun i => decide ((((a.cell 2).els.getD i .undef).cell 0).i = (((b.cell 2).els.getD i .undef).cell 0).i)) (fun i => [.int .i64 i, .pv (xE a), .pv (xE b)]) (some [.bool false]) (some [.bool r2]) (fun i hi again => ?_) (fun again => ?_) k (by omega)
  · obtain ⟨r, hr, hr2⟩ := hx
    refine ⟨r && r2, ?_, ?_⟩
    · simp only [Int.natCast_zero] at hr
      rw [hr]; cases r <;> rfl
    · rw [Bool.and_eq_true, hr2, g3]
      refine and_congr ?_ Iff.rfl
      simp only [decide_eq_true_eq]
      exact all_eq_iff h2 (p := fun x y => (x.cell 0).i = (y.cell 0).i) fun x y hx hy => by
        have e1 := (ha.hc x hx).eta
        have e2 := (hb.hc y hy).eta
        constructor
        · intro e; rw [← e1, ← e2, e]
        · intro e; rw [e]
  · unfold gatepathref43_Same.b2
    by_cases h3 : (((a.cell 2).els.getD i .undef).cell 0).i = (((b.cell 2).els.getD i .undef).cell 0).i
    · simp (disch := omega) only [decide_true, decide_false, if_true, if_false, Bool.false_eq_true, Bool.true_eq_false, eq_self, Bool.true_or, Bool.false_or, Bool.true_and, Bool.false_and, Bool.or_true, Bool.or_false, Bool.and_true, Bool.and_false, List.getD_cons_zero, List.getD_cons_succ, cell_int, cell_bool, cell_str, cell_sl, cell_agg, i_int, b_bool, s_str, nb_sl, els_sl, nb_ov, els_ov, cs_pv, cs_agg, Int.toNat_natCast, toNat_sub1, toNat_add1, List.length_map, getD_map, ct, cf, beqd, bned, cp, cn, cnp, cnn, if_pos, if_neg, wrap64, Option.bind_some, Bool.not_true, Bool.not_false, List.isEmpty_nil, List.nil_append, List.length_nil, List.length_cons, Nat.zero_add, xE2, xEta, h3, ne_eq, not_true_eq_false, Int.natCast_add, Int.natCast_one]
    · simp (disch := omega) only [decide_true, decide_false, if_true, if_false, Bool.false_eq_true, Bool.true_eq_false, eq_self, Bool.true_or, Bool.false_or, Bool.true_and, Bool.false_and, Bool.or_true, Bool.or_false, Bool.and_true, Bool.and_false, List.getD_cons_zero, List.getD_cons_succ, cell_int, cell_bool, cell_str, cell_sl, cell_agg, i_int, b_bool, s_str, nb_sl, els_sl, nb_ov, els_ov, cs_pv, cs_agg, Int.toNat_natCast, toNat_sub1, toNat_add1, List.length_map, getD_map, ct, cf, beqd, bned, cp, cn, cnp, cnn, if_pos, if_neg, wrap64, Option.bind_some, Bool.not_true, Bool.not_false, List.isEmpty_nil, List.nil_append, List.length_nil, List.length_cons, Nat.zero_add, xE2, xEta, h3, ne_eq, not_false_eq_true, Int.natCast_add, Int.natCast_one]
  · unfold gatepathref43_Same.b2
    simp (disch := omega) only [decide_true, decide_false, if_true, if_false, Bool.false_eq_true, Bool.true_eq_false, eq_self, Bool.true_or, Bool.false_or, Bool.true_and, Bool.false_and, Bool.or_true, Bool.or_false, Bool.and_true, Bool.and_false, List.getD_cons_zero, List.getD_cons_succ, cell_int, cell_bool, cell_str, cell_sl, cell_agg, i_int, b_bool, s_str, nb_sl, els_sl, nb_ov, els_ov, cs_pv, cs_agg, Int.toNat_natCast, toNat_sub1, toNat_add1, List.length_map, getD_map, ct, cf, beqd, bned, cp, cn, cnp, cnn, if_pos, if_neg, wrap64, Option.bind_some, Bool.not_true, Bool.not_false, List.isEmpty_nil, List.nil_append, List.length_nil, List.length_cons, Nat.zero_add, xE2, xE3, xE4, xE5, xEta, g2]

theorem same43b1 (h1 : (a.cell 1).els.length = (b.cell 1).els.length) (h2 : (a.cell 2).els.length = (b.cell 2).els.length) : ∃ r : Bool, iter k (gatepathref43_Same.b1 (Cl ty tab) k) [.int .i64 0, .pv (xE a), .pv (xE b)] = some [.bool r] ∧ (r = true ↔ (a.cell 1).els = (b.cell 1).els ∧ (a.cell 2).els = (b.cell 2).els ∧ (a.cell 3).els = (b.cell 3).els ∧ (a.cell 4).els.map pk = (b.cell 4).els.map pk ∧ (a.cell 5).els = (b.cell 5).els) := by
  have hn := ha.ny
  obtain ⟨r2, g2, g3⟩ := same43b2 k hk a b ha hb h2
  have hx := all_loop (F := gatepathref43_Same.b1 (Cl ty tab) k) (a.cell 1).els.length (fun i => eqCells (yKsE ((a.cell 1).els.getD i .undef) 0) (yKsE ((b.cell 1).els.getD i .undef) 0)) (fun i => [.int .i64 i, .pv (xE a), .pv (xE b)]) (some [.bool false]) (some [.bool r2]) (fun i hi again => ?_) (fun again => ?_) k (by omega)
  · obtain ⟨r, hr, hr2⟩ := hx
    refine ⟨r && r2, ?_, ?_⟩
    · simp only [Int.natCast_zero] at hr
      rw [hr]; cases r <;> rfl
    · rw [Bool.and_eq_true, hr2, g3]
      refine and_congr ?_ Iff.rfl
      exact all_eq_iff h1 (p := fun x y => eqCells (yKsE x 0) (yKsE y 0) = true) fun x y hx hy => eqCells_eta (ks := yKs) (by decide) (ha.hy x hx).fit (hb.hy y hy).fit
  · unfold gatepathref43_Same.b1
    cases hc : eqCells (yKsE ((a.cell 1).els.getD i .undef) 0) (yKsE ((b.cell 1).els.getD i .undef) 0)
    · simp (disch := omega) only [decide_true, decide_false, if_true, if_false, Bool.false_eq_true, Bool.true_eq_false, eq_self, Bool.true_or, Bool.false_or, Bool.true_and, Bool.false_and, Bool.or_true, Bool.or_false, Bool.and_true, Bool.and_false, List.getD_cons_zero, List.getD_cons_succ, cell_int, cell_bool, cell_str, cell_sl, cell_agg, i_int, b_bool, s_str, nb_sl, els_sl, nb_ov, els_ov, cs_pv, cs_agg, Int.toNat_natCast, toNat_sub1, toNat_add1, List.length_map, getD_map, ct, cf, beqd, bned, cp, cn, cnp, cnn, if_pos, if_neg, wrap64, Option.bind_some, Bool.not_true, Bool.not_false, List.isEmpty_nil, List.nil_append, List.length_nil, List.length_cons, Nat.zero_add, xE1, xEta, hc, Int.natCast_add, Int.natCast_one]
    · simp (disch := omega) only [decide_true, decide_false, if_true, if_false, Bool.false_eq_true, Bool.true_eq_false, eq_self, Bool.true_or, Bool.false_or, Bool.true_and, Bool.false_and, Bool.or_true, Bool.or_false, Bool.and_true, Bool.and_false, List.getD_cons_zero, List.getD_cons_succ, cell_int, cell_bool, cell_str, cell_sl, cell_agg, i_int, b_bool, s_str, nb_sl, els_sl, nb_ov, els_ov, cs_pv, cs_agg, Int.toNat_natCast, toNat_sub1, toNat_add1, List.length_map, getD_map, ct, cf, beqd, bned, cp, cn, cnp, cnn, if_pos, if_neg, wrap64, Option.bind_some, Bool.not_true, Bool.not_false, List.isEmpty_nil, List.nil_append, List.length_nil, List.length_cons, Nat.zero_add, xE1, xEta, hc, Int.natCast_add, Int.natCast_one]
  · unfold gatepathref43_Same.b1
    simp (disch := omega) only [decide_true, decide_false, if_true, if_false, Bool.false_eq_true, Bool.true_eq_false, eq_self, Bool.true_or, Bool.false_or, Bool.true_and, Bool.false_and, Bool.or_true, Bool.or_false, Bool.and_true, Bool.and_false, List.getD_cons_zero, List.getD_cons_succ, cell_int, cell_bool, cell_str, cell_sl, cell_agg, i_int, b_bool, s_str, nb_sl, els_sl, nb_ov, els_ov, cs_pv, cs_agg, Int.toNat_natCast, toNat_sub1, toNat_add1, List.length_map, getD_map, ct, cf, beqd, bned, cp, cn, cnp, cnn, if_pos, if_neg, wrap64, Option.bind_some, Bool.not_true, Bool.not_false, List.isEmpty_nil, List.nil_append, List.length_nil, List.length_cons, Nat.zero_add, xE1, xEta, g2]

theorem same43b0 (h0 : (a.cell 0).els.length = (b.cell 0).els.length) (h1 : (a.cell 1).els.length = (b.cell 1).els.length) (h2 : (a.cell 2).els.length = (b.cell 2).els.length) : ∃ r : Bool, iter k (gatepathref43_Same.b0 (Cl ty tab) k) [.int .i64 0, .pv (xE a), .pv (xE b)] = some [.bool r] ∧ (r = true ↔ SameX a b) := by
  have hn := ha.nf
  obtain ⟨r2, g2, g3⟩ := same43b1 k hk a b ha hb h1 h2
  have hx := all_loop (F := gatepathref43_Same.b0 (Cl ty tab) k) (a.cell 0).els.length (fun i => eqCells (etaCells ks1 ((a.cell 0).els.getD i .undef) 0) (etaCells ks1 ((b.cell 0).els.getD i .undef) 0)) (fun i => [.int .i64 i, .pv (xE a), .pv (xE b)]) (some [.bool false]) (some [.bool r2]) (fun i hi again => ?_) (fun again => ?_) k (by omega)
  · obtain ⟨r, hr, hr2⟩ := hx
    refine ⟨r && r2, ?_, ?_⟩
    · simp only [Int.natCast_zero] at hr
      rw [hr]; cases r <;> rfl
    · rw [Bool.and_eq_true, hr2, g3]
      refine and_congr ?_ Iff.rfl
      exact all_eq_iff h0 (p := fun x y => eqCells (etaCells fKs x 0) (etaCells fKs y 0) = true) fun x y hx hy => eqCells_eta (ks := fKs) (by decide) (ha.hf x hx).fit (hb.hf y hy).fit
  · unfold gatepathref43_Same.b0
    cases hc : eqCells (etaCells ks1 ((a.cell 0).els.getD i .undef) 0) (etaCells ks1 ((b.cell 0).els.getD i .undef) 0)
    · simp (disch := omega) only [decide_true, decide_false, if_true, if_false, Bool.false_eq_true, Bool.true_eq_false, eq_self, Bool.true_or, Bool.false_or, Bool.true_and, Bool.false_and, Bool.or_true, Bool.or_false, Bool.and_true, Bool.and_false, List.getD_cons_zero, List.getD_cons_succ, cell_int, cell_bool, cell_str, cell_sl, cell_agg, i_int, b_bool, s_str, nb_sl, els_sl, nb_ov, els_ov, cs_pv, cs_agg, Int.toNat_natCast, toNat_sub1, toNat_add1, List.length_map, getD_map, ct, cf, beqd, bned, cp, cn, cnp, cnn, if_pos, if_neg, wrap64, Option.bind_some, Bool.not_true, Bool.not_false, List.isEmpty_nil, List.nil_append, List.length_nil, List.length_cons, Nat.zero_add, xE0, xEta, hc, Int.natCast_add, Int.natCast_one]
    · simp (disch := omega) only [decide_true, decide_false, if_true, if_false, Bool.false_eq_true, Bool.true_eq_false, eq_self, Bool.true_or, Bool.false_or, Bool.true_and, Bool.false_and, Bool.or_true, Bool.or_false, Bool.and_true, Bool.and_false, List.getD_cons_zero, List.getD_cons_succ, cell_int, cell_bool, cell_str, cell_sl, cell_agg, i_int, b_bool, s_str, nb_sl, els_sl, nb_ov, els_ov, cs_pv, cs_agg, Int.toNat_natCast, toNat_sub1, toNat_add1, List.length_map, getD_map, ct, cf, beqd, bned, cp, cn, cnp, cnn, if_pos, if_neg, wrap64, Option.bind_some, Bool.not_true, Bool.not_false, List.isEmpty_nil, List.nil_append, List.length_nil, List.length_cons, Nat.zero_add, xE0, xEta, hc, Int.natCast_add, Int.natCast_one]
  · unfold gatepathref43_Same.b0
    simp (disch := omega) only [decide_true, decide_false, if_true, if_false, Bool.false_eq_true, Bool.true_eq_false, eq_self, Bool.true_or, Bool.false_or, Bool.true_and, Bool.false_and, Bool.or_true, Bool.or_false, Bool.and_true, Bool.and_false, List.getD_cons_zero, List.getD_cons_succ, cell_int, cell_bool, cell_str, cell_sl, cell_agg, i_int, b_bool, s_str, nb_sl, els_sl, nb_ov, els_ov, cs_pv, cs_agg, Int.toNat_natCast, toNat_sub1, toNat_add1, List.length_map, getD_map, ct, cf, beqd, bned, cp, cn, cnp, cnn, if_pos, if_neg, wrap64, Option.bind_some, Bool.not_true, Bool.not_false, List.isEmpty_nil, List.nil_append, List.length_nil, List.length_cons, Nat.zero_add, xE0, xEta, g2]

omit hk in
theorem same43_ok : ∃ r : Bool, Cl ty tab 8 [a, b] = some [.bool r] ∧ (r = true ↔ SameX a b) := by
  obtain ⟨k, hk⟩ := rounds
  have key : ∀ r, gatepathref43_Same (Cl ty tab) k a b = some [.bool r] → Cl ty tab 8 [a, b] = some [.bool r] := fun r hr => by
    have := s_gatepathref43_Same k a b hr
    rwa [ha.eta, hb.eta] at this
  unfold gatepathref43_Same at key
  by_cases h0 : (a.cell 0).els.length = (b.cell 0).els.length
  case neg =>
    refine ⟨false, key _ ?_, ?_⟩
    · have : ¬ (((a.cell 0).els.length : Nat) : Int) = (((b.cell 0).els.length : Nat) : Int) := by omega
      simp (disch := omega) only [decide_true, decide_false, if_true, if_false, Bool.false_eq_true, Bool.true_eq_false, eq_self, Bool.true_or, Bool.false_or, Bool.true_and, Bool.false_and, Bool.or_true, Bool.or_false, Bool.and_true, Bool.and_false, List.getD_cons_zero, List.getD_cons_succ, cell_int, cell_bool, cell_str, cell_sl, cell_agg, i_int, b_bool, s_str, nb_sl, els_sl, nb_ov, els_ov, cs_pv, cs_agg, Int.toNat_natCast, toNat_sub1, toNat_add1, List.length_map, getD_map, ct, cf, beqd, bned, cp, cn, cnp, cnn, if_pos, if_neg, wrap64, Option.bind_some, Bool.not_true, Bool.not_false, List.isEmpty_nil, List.nil_append, List.length_nil, List.length_cons, Nat.zero_add, this, ne_eq, not_false_eq_true]
    · constructor
      · intro h; cases h
      · intro h; exact absurd (congrArg List.length h.1) h0
  by_cases h1 : (a.cell 1).els.length = (b.cell 1).els.length
  case neg =>
    refine ⟨false, key _ ?_, ?_⟩
    · have e0 : (((a.cell 0).els.length : Nat) : Int) = (((b.cell 0).els.length : Nat) : Int) := by omega
      have : ¬ (((a.cell 1).els.length : Nat) : Int) = (((b.cell 1).els.length : Nat) : Int) := by omega
      simp (disch := omega) only [decide_true, decide_false, if_true, if_false, Bool.false_eq_true, Bool.true_eq_false, eq_self, Bool.true_or, Bool.false_or, Bool.true_and, Bool.false_and, Bool.or_true, Bool.or_false, Bool.and_true, Bool.and_false, List.getD_cons_zero, List.getD_cons_succ, cell_int, cell_bool, cell_str, cell_sl, cell_agg, i_int, b_bool, s_str, nb_sl, els_sl, nb_ov, els_ov, cs_pv, cs_agg, Int.toNat_natCast, toNat_sub1, toNat_add1, List.length_map, getD_map, ct, cf, beqd, bned, cp, cn, cnp, cnn, if_pos, if_neg, wrap64, Option.bind_some, Bool.not_true, Bool.not_false, List.isEmpty_nil, List.nil_append, List.length_nil, List.length_cons, Nat.zero_add, e0, this, ne_eq, not_false_eq_true, not_true_eq_false]
    · constructor
      · intro h; cases h
      · intro h; exact absurd (congrArg List.length h.2.1) h1
  by_cases h2 : (a.cell 2).els.length = (b.cell 2).els.length
  case neg =>
    refine ⟨false, key _ ?_, ?_⟩
    · have e0 : (((a.cell 0).els.length : Nat) : Int) = (((b.cell 0).els.length : Nat) : Int) := by omega
      have e1 : (((a.cell 1).els.length : Nat) : Int) = (((b.cell 1).els.length : Nat) : Int) := by omega
      have : ¬ (((a.cell 2).els.length : Nat) : Int) = (((b.cell 2).els.length : Nat) : Int) := by omega
      simp (disch := omega) only [decide_true, decide_false, if_true, if_false, Bool.false_eq_true, Bool.true_eq_false, eq_self, Bool.true_or, Bool.false_or, Bool.true_and, Bool.false_and, Bool.or_true, Bool.or_false, Bool.and_true, Bool.and_false, List.getD_cons_zero, List.getD_cons_succ, cell_int, cell_bool, cell_str, cell_sl, cell_agg, i_int, b_bool, s_str, nb_sl, els_sl, nb_ov, els_ov, cs_pv, cs_agg, Int.toNat_natCast, toNat_sub1, toNat_add1, List.length_map, getD_map, ct, cf, beqd, bned, cp, cn, cnp, cnn, if_pos, if_neg, wrap64, Option.bind_some, Bool.not_true, Bool.not_false, List.isEmpty_nil, List.nil_append, List.length_nil, List.length_cons, Nat.zero_add, e0, e1, this, ne_eq, not_false_eq_true, not_true_eq_false]
    · constructor
      · intro h; cases h
      · intro h; exact absurd (congrArg List.length h.2.2.1) h2
  obtain ⟨r, hr, hr2⟩ := same43b0 k hk a b ha hb h0 h1 h2
  refine ⟨r, key _ ?_, hr2⟩
  have e0 : (((a.cell 0).els.length : Nat) : Int) = (((b.cell 0).els.length : Nat) : Int) := by omega
  have e1 : (((a.cell 1).els.length : Nat) : Int) = (((b.cell 1).els.length : Nat) : Int) := by omega
  have e2 : (((a.cell 2).els.length : Nat) : Int) = (((b.cell 2).els.length : Nat) : Int) := by omega
  simp (disch := omega) only [decide_true, decide_false, if_true, if_false, Bool.false_eq_true, Bool.true_eq_false, eq_self, Bool.true_or, Bool.false_or, Bool.true_and, Bool.false_and, Bool.or_true, Bool.or_false, Bool.and_true, Bool.and_false, List.getD_cons_zero, List.getD_cons_succ, cell_int, cell_bool, cell_str, cell_sl, cell_agg, i_int, b_bool, s_str, nb_sl, els_sl, nb_ov, els_ov, cs_pv, cs_agg, Int.toNat_natCast, toNat_sub1, toNat_add1, List.length_map, getD_map, ct, cf, beqd, bned, cp, cn, cnp, cnn, if_pos, if_neg, wrap64, Option.bind_some, Bool.not_true, Bool.not_false, List.isEmpty_nil, List.nil_append, List.length_nil, List.length_cons, Nat.zero_add, e0, e1, e2, hr, ne_eq, not_true_eq_false]
end

end Go.Proofs.Ytapfhcnigmighaa.Own
