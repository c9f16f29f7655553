import Derived.Test.YtekkbhmlocageaaG
import Derived.Test.YtekkbhmlocageaaAlive
import Derived.Test.YtekkbhmlocageaaRPolicyTotal
namespace Go.Proofs.Ytekkbhmlocageaa.Own
open Go Go.Proofs.Ytekkbhmlocageaa.GD
set_option linter.unusedVariables false
set_option linter.unusedSimpArgs false

theorem alive_is : Cl ty tab 12 [] = some [.bool true] := Cl_eq.2 alive_ev

theorem cmp_yes {a b : D} (ha : Jd a) (hb : Jd b) (ra : rightJ a = true) (rb : rightJ b = true) : Cl ty tab 10 [a, b] = some [.int .i64 (cmpJ a b), .int .i64 0] := by
  rw [Compare_ok a b ha hb]
  unfold compareR
  rw [if_pos ⟨ra, rb⟩]

theorem cmp_no {a b : D} (ha : Jd a) (hb : Jd b) (h : rightJ a = false ∨ rightJ b = false) : Cl ty tab 10 [a, b] = some [.int .i64 0, .int .i64 8] := by
  rw [Compare_ok a b ha hb]
  unfold compareR
  rw [if_neg (by rintro ⟨h1, h2⟩; rcases h with h | h <;> simp_all)]

set_option maxHeartbeats 2000000 in
theorem policyTotal_cl (a b c : D) (ha : Jd a) (hb : Jd b) (hc : Jd c) (sa : (a.cell 13).els.length ≤ 9223372036854775807) (sb : (b.cell 13).els.length ≤ 9223372036854775807) (sc : (c.cell 13).els.length ≤ 9223372036854775807) : Cl ty tab 4 [a, b, c] = some [.bool true] := by
  have := s_gatepathlaw44_PolicyTotal 0 a b c (r := [.bool true]) ?_
  · rwa [ha.eta, hb.eta, hc.eta] at this
  unfold gatepathlaw44_PolicyTotal
  have ea := ha.eta
  have eb := hb.eta
  have ec := hc.eta
  have ga := greatJ_ok a sa
  have gb := greatJ_ok b sb
  have gc := greatJ_ok c sc
  have ra := rright_ok a ha
  have rb := rright_ok b hb
  have rc := rright_ok c hc
  cases h1 : greatJ a
  case true => simp (disch := omega) only [decide_true, decide_false, if_true, if_false, Bool.false_eq_true, Bool.true_eq_false, eq_self, Bool.true_or, Bool.false_or, Bool.true_and, Bool.false_and, Bool.or_true, Bool.or_false, Bool.and_true, Bool.and_false, List.getD_cons_zero, List.getD_cons_succ, cell_int, cell_bool, cell_str, cell_sl, cell_agg, i_int, b_bool, s_str, nb_sl, els_sl, nb_ov, els_ov, cs_pv, cs_agg, Int.toNat_natCast, toNat_sub1, toNat_add1, List.length_map, getD_map, ct, cf, beqd, bned, cp, cn, cnp, cnn, if_pos, if_neg, wrap64, Option.bind_some, Bool.not_true, Bool.not_false, List.isEmpty_nil, List.nil_append, List.length_nil, List.length_cons, Nat.zero_add, alive_is, ga, h1]
  cases h2 : greatJ b
  case true => simp (disch := omega) only [decide_true, decide_false, if_true, if_false, Bool.false_eq_true, Bool.true_eq_false, eq_self, Bool.true_or, Bool.false_or, Bool.true_and, Bool.false_and, Bool.or_true, Bool.or_false, Bool.and_true, Bool.and_false, List.getD_cons_zero, List.getD_cons_succ, cell_int, cell_bool, cell_str, cell_sl, cell_agg, i_int, b_bool, s_str, nb_sl, els_sl, nb_ov, els_ov, cs_pv, cs_agg, Int.toNat_natCast, toNat_sub1, toNat_add1, List.length_map, getD_map, ct, cf, beqd, bned, cp, cn, cnp, cnn, if_pos, if_neg, wrap64, Option.bind_some, Bool.not_true, Bool.not_false, List.isEmpty_nil, List.nil_append, List.length_nil, List.length_cons, Nat.zero_add, alive_is, ga, gb, h1, h2]
  cases h3 : greatJ c
  case true => simp (disch := omega) only [decide_true, decide_false, if_true, if_false, Bool.false_eq_true, Bool.true_eq_false, eq_self, Bool.true_or, Bool.false_or, Bool.true_and, Bool.false_and, Bool.or_true, Bool.or_false, Bool.and_true, Bool.and_false, List.getD_cons_zero, List.getD_cons_succ, cell_int, cell_bool, cell_str, cell_sl, cell_agg, i_int, b_bool, s_str, nb_sl, els_sl, nb_ov, els_ov, cs_pv, cs_agg, Int.toNat_natCast, toNat_sub1, toNat_add1, List.length_map, getD_map, ct, cf, beqd, bned, cp, cn, cnp, cnn, if_pos, if_neg, wrap64, Option.bind_some, Bool.not_true, Bool.not_false, List.isEmpty_nil, List.nil_append, List.length_nil, List.length_cons, Nat.zero_add, alive_is, ga, gb, gc, h1, h2, h3]
  cases r1 : rightJ a
  case false =>
    have c1 := cmp_no ha hb (.inl r1)
    have c2 := cmp_no hb ha (.inr r1)
    simp (disch := omega) only [decide_true, decide_false, if_true, if_false, Bool.false_eq_true, Bool.true_eq_false, eq_self, Bool.true_or, Bool.false_or, Bool.true_and, Bool.false_and, Bool.or_true, Bool.or_false, Bool.and_true, Bool.and_false, List.getD_cons_zero, List.getD_cons_succ, cell_int, cell_bool, cell_str, cell_sl, cell_agg, i_int, b_bool, s_str, nb_sl, els_sl, nb_ov, els_ov, cs_pv, cs_agg, Int.toNat_natCast, toNat_sub1, toNat_add1, List.length_map, getD_map, ct, cf, beqd, bned, cp, cn, cnp, cnn, if_pos, if_neg, wrap64, Option.bind_some, Bool.not_true, Bool.not_false, List.isEmpty_nil, List.nil_append, List.length_nil, List.length_cons, Nat.zero_add, alive_is, ga, gb, gc, h1, h2, h3, ea, eb, c1, c2, ra, r1]
  cases r2 : rightJ b
  case false =>
    have c1 := cmp_no ha hb (.inr r2)
    have c2 := cmp_no hb ha (.inl r2)
    simp (disch := omega) only [decide_true, decide_false, if_true, if_false, Bool.false_eq_true, Bool.true_eq_false, eq_self, Bool.true_or, Bool.false_or, Bool.true_and, Bool.false_and, Bool.or_true, Bool.or_false, Bool.and_true, Bool.and_false, List.getD_cons_zero, List.getD_cons_succ, cell_int, cell_bool, cell_str, cell_sl, cell_agg, i_int, b_bool, s_str, nb_sl, els_sl, nb_ov, els_ov, cs_pv, cs_agg, Int.toNat_natCast, toNat_sub1, toNat_add1, List.length_map, getD_map, ct, cf, beqd, bned, cp, cn, cnp, cnn, if_pos, if_neg, wrap64, Option.bind_some, Bool.not_true, Bool.not_false, List.isEmpty_nil, List.nil_append, List.length_nil, List.length_cons, Nat.zero_add, alive_is, ga, gb, gc, h1, h2, h3, ea, eb, c1, c2, ra, rb, r1, r2]
  have c1 := cmp_yes ha hb r1 r2
  have c2 := cmp_yes hb ha r2 r1
  have c3 := cmp_yes ha ha r1 r1
  have anti := TC.cmpJ.anti a b
  have rng := TC.cmpJ.rng a b
  have self : cmpJ a a = 0 := by have := TC.cmpJ.anti a a; omega
  rw [anti] at c2
  rw [self] at c3
  have hz := cmpJ_zero (a := a) (b := b)
  have hnear : rankJ (a.cell 5).i = rankJ (b.cell 5).i → (a.cell 5).i = (b.cell 5).i := rank_inj (rightJ_near r1).1 (rightJ_near r2).1
  have tr1 := fun h1 h2 => TC.cmpJ.tr a b c h1 h2
  have tr2 := fun h1 h2 => TC.cmpJ.tr c b a h1 h2
  have an1 := TC.cmpJ.anti b c
  have an2 := TC.cmpJ.anti a c
  have rng2 := TC.cmpJ.rng b c
  have rng3 := TC.cmpJ.rng a c
  have hx0 : cmpJ a b = 0 → (a.cell 6).i = (b.cell 6).i ∧ (a.cell 5).i = (b.cell 5).i ∧ (a.cell 7).i = (b.cell 7).i ∧ (a.cell 8).i = (b.cell 8).i ∧ (((a.cell 4).els.length : Nat) : Int) = (((b.cell 4).els.length : Nat) : Int) := fun h => by
    obtain ⟨z1, z2, z3, z4, z5, _⟩ := hz h
    exact ⟨z1, hnear z3, z4, z5, by omega⟩
  clear hz hnear
  cases r3 : rightJ c
  case false =>
    clear tr1 tr2 an1 an2 rng2 rng3
    by_cases x0 : cmpJ a b = 0
    · obtain ⟨z1, z2, z3, z4, z5⟩ := hx0 x0
      rw [x0] at c1 c2
      simp (disch := omega) only [decide_true, decide_false, if_true, if_false, Bool.false_eq_true, Bool.true_eq_false, eq_self, Bool.true_or, Bool.false_or, Bool.true_and, Bool.false_and, Bool.or_true, Bool.or_false, Bool.and_true, Bool.and_false, List.getD_cons_zero, List.getD_cons_succ, cell_int, cell_bool, cell_str, cell_sl, cell_agg, i_int, b_bool, s_str, nb_sl, els_sl, nb_ov, els_ov, cs_pv, cs_agg, Int.toNat_natCast, toNat_sub1, toNat_add1, List.length_map, getD_map, ct, cf, beqd, bned, cp, cn, cnp, cnn, if_pos, if_neg, wrap64, Option.bind_some, Bool.not_true, Bool.not_false, List.isEmpty_nil, List.nil_append, List.length_nil, List.length_cons, Nat.zero_add, alive_is, ga, gb, gc, h1, h2, h3, ea, eb, ec, c1, c2, c3, ra, rb, rc, r1, r2, r3, ne_eq, not_true_eq_false, z1, z2, z3, z4, z5, Int.sub_zero]
    · have e : 0 - (0 - cmpJ a b) = cmpJ a b := by omega
      generalize cmpJ a b = x at *
      simp (disch := omega) only [decide_true, decide_false, if_true, if_false, Bool.false_eq_true, Bool.true_eq_false, eq_self, Bool.true_or, Bool.false_or, Bool.true_and, Bool.false_and, Bool.or_true, Bool.or_false, Bool.and_true, Bool.and_false, List.getD_cons_zero, List.getD_cons_succ, cell_int, cell_bool, cell_str, cell_sl, cell_agg, i_int, b_bool, s_str, nb_sl, els_sl, nb_ov, els_ov, cs_pv, cs_agg, Int.toNat_natCast, toNat_sub1, toNat_add1, List.length_map, getD_map, ct, cf, beqd, bned, cp, cn, cnp, cnn, if_pos, if_neg, wrap64, Option.bind_some, Bool.not_true, Bool.not_false, List.isEmpty_nil, List.nil_append, List.length_nil, List.length_cons, Nat.zero_add, alive_is, ga, gb, gc, h1, h2, h3, ea, eb, ec, c1, c2, c3, ra, rb, rc, r1, r2, r3, ne_eq, not_true_eq_false, not_false_eq_true, e, x0]
  case true =>
    have c4 := cmp_yes hb hc r2 r3
    have c5 := cmp_yes ha hc r1 r3
    have key : (cmpJ a b ≤ 0 ∧ cmpJ b c ≤ 0 → cmpJ a c = if cmpJ b c < cmpJ a b then cmpJ b c else cmpJ a b) ∧ (¬ (cmpJ a b ≤ 0 ∧ cmpJ b c ≤ 0) → cmpJ a b < 0 ∨ cmpJ b c < 0 ∨ 0 ≤ cmpJ a c) := by
      constructor
      · rintro ⟨k1, k2⟩
        rw [tr1 k1 k2]
        split <;> omega
      · intro hn
        by_cases k1 : cmpJ a b < 0
        · exact .inl k1
        by_cases k2 : cmpJ b c < 0
        · exact .inr (.inl k2)
        have := tr2 (by omega) (by omega)
        exact .inr (.inr (by omega))
    clear tr1 tr2 an1 an2
    generalize cmpJ a b = x at *
    generalize cmpJ b c = u at *
    generalize cmpJ a c = v at *
    obtain ⟨key1, key2⟩ := key
    have e : 0 - (0 - x) = x := by omega
    by_cases x0 : x = 0
    · obtain ⟨z1, z2, z3, z4, z5⟩ := hx0 x0
      subst x0
      by_cases k2 : u ≤ 0
      · have := key1 ⟨by omega, k2⟩
        subst this
        simp (disch := omega) only [decide_true, decide_false, if_true, if_false, Bool.false_eq_true, Bool.true_eq_false, eq_self, Bool.true_or, Bool.false_or, Bool.true_and, Bool.false_and, Bool.or_true, Bool.or_false, Bool.and_true, Bool.and_false, List.getD_cons_zero, List.getD_cons_succ, cell_int, cell_bool, cell_str, cell_sl, cell_agg, i_int, b_bool, s_str, nb_sl, els_sl, nb_ov, els_ov, cs_pv, cs_agg, Int.toNat_natCast, toNat_sub1, toNat_add1, List.length_map, getD_map, ct, cf, beqd, bned, cp, cn, cnp, cnn, if_pos, if_neg, wrap64, Option.bind_some, Bool.not_true, Bool.not_false, List.isEmpty_nil, List.nil_append, List.length_nil, List.length_cons, Nat.zero_add, alive_is, ga, gb, gc, h1, h2, h3, ea, eb, ec, c1, c2, c3, c4, c5, ra, rb, rc, r1, r2, r3, ne_eq, not_true_eq_false, z1, z2, z3, z4, z5, Int.sub_zero]
      · have := key2 (by omega)
        have k3 : 0 ≤ v := by omega
        simp (disch := omega) only [decide_true, decide_false, if_true, if_false, Bool.false_eq_true, Bool.true_eq_false, eq_self, Bool.true_or, Bool.false_or, Bool.true_and, Bool.false_and, Bool.or_true, Bool.or_false, Bool.and_true, Bool.and_false, List.getD_cons_zero, List.getD_cons_succ, cell_int, cell_bool, cell_str, cell_sl, cell_agg, i_int, b_bool, s_str, nb_sl, els_sl, nb_ov, els_ov, cs_pv, cs_agg, Int.toNat_natCast, toNat_sub1, toNat_add1, List.length_map, getD_map, ct, cf, beqd, bned, cp, cn, cnp, cnn, if_pos, if_neg, wrap64, Option.bind_some, Bool.not_true, Bool.not_false, List.isEmpty_nil, List.nil_append, List.length_nil, List.length_cons, Nat.zero_add, alive_is, ga, gb, gc, h1, h2, h3, ea, eb, ec, c1, c2, c3, c4, c5, ra, rb, rc, r1, r2, r3, ne_eq, not_true_eq_false, z1, z2, z3, z4, z5, Int.sub_zero, k2, k3]
    · by_cases k1 : x ≤ 0
      · by_cases k2 : u ≤ 0
        · have := key1 ⟨k1, k2⟩
          subst this
          simp (disch := omega) only [decide_true, decide_false, if_true, if_false, Bool.false_eq_true, Bool.true_eq_false, eq_self, Bool.true_or, Bool.false_or, Bool.true_and, Bool.false_and, Bool.or_true, Bool.or_false, Bool.and_true, Bool.and_false, List.getD_cons_zero, List.getD_cons_succ, cell_int, cell_bool, cell_str, cell_sl, cell_agg, i_int, b_bool, s_str, nb_sl, els_sl, nb_ov, els_ov, cs_pv, cs_agg, Int.toNat_natCast, toNat_sub1, toNat_add1, List.length_map, getD_map, ct, cf, beqd, bned, cp, cn, cnp, cnn, if_pos, if_neg, wrap64, Option.bind_some, Bool.not_true, Bool.not_false, List.isEmpty_nil, List.nil_append, List.length_nil, List.length_cons, Nat.zero_add, alive_is, ga, gb, gc, h1, h2, h3, ea, eb, ec, c1, c2, c3, c4, c5, ra, rb, rc, r1, r2, r3, ne_eq, not_true_eq_false, not_false_eq_true, e, x0, k1, k2]
        · simp (disch := omega) only [decide_true, decide_false, if_true, if_false, Bool.false_eq_true, Bool.true_eq_false, eq_self, Bool.true_or, Bool.false_or, Bool.true_and, Bool.false_and, Bool.or_true, Bool.or_false, Bool.and_true, Bool.and_false, List.getD_cons_zero, List.getD_cons_succ, cell_int, cell_bool, cell_str, cell_sl, cell_agg, i_int, b_bool, s_str, nb_sl, els_sl, nb_ov, els_ov, cs_pv, cs_agg, Int.toNat_natCast, toNat_sub1, toNat_add1, List.length_map, getD_map, ct, cf, beqd, bned, cp, cn, cnp, cnn, if_pos, if_neg, wrap64, Option.bind_some, Bool.not_true, Bool.not_false, List.isEmpty_nil, List.nil_append, List.length_nil, List.length_cons, Nat.zero_add, alive_is, ga, gb, gc, h1, h2, h3, ea, eb, ec, c1, c2, c3, c4, c5, ra, rb, rc, r1, r2, r3, ne_eq, not_true_eq_false, not_false_eq_true, e, x0, k1, k2]
      · have := key2 (by omega)
        by_cases k2 : u < 0
        · simp (disch := omega) only [decide_true, decide_false, if_true, if_false, Bool.false_eq_true, Bool.true_eq_false, eq_self, Bool.true_or, Bool.false_or, Bool.true_and, Bool.false_and, Bool.or_true, Bool.or_false, Bool.and_true, Bool.and_false, List.getD_cons_zero, List.getD_cons_succ, cell_int, cell_bool, cell_str, cell_sl, cell_agg, i_int, b_bool, s_str, nb_sl, els_sl, nb_ov, els_ov, cs_pv, cs_agg, Int.toNat_natCast, toNat_sub1, toNat_add1, List.length_map, getD_map, ct, cf, beqd, bned, cp, cn, cnp, cnn, if_pos, if_neg, wrap64, Option.bind_some, Bool.not_true, Bool.not_false, List.isEmpty_nil, List.nil_append, List.length_nil, List.length_cons, Nat.zero_add, alive_is, ga, gb, gc, h1, h2, h3, ea, eb, ec, c1, c2, c3, c4, c5, ra, rb, rc, r1, r2, r3, ne_eq, not_true_eq_false, not_false_eq_true, e, x0, k1, k2]
        · have k3 : 0 ≤ v := by omega
          simp (disch := omega) only [decide_true, decide_false, if_true, if_false, Bool.false_eq_true, Bool.true_eq_false, eq_self, Bool.true_or, Bool.false_or, Bool.true_and, Bool.false_and, Bool.or_true, Bool.or_false, Bool.and_true, Bool.and_false, List.getD_cons_zero, List.getD_cons_succ, cell_int, cell_bool, cell_str, cell_sl, cell_agg, i_int, b_bool, s_str, nb_sl, els_sl, nb_ov, els_ov, cs_pv, cs_agg, Int.toNat_natCast, toNat_sub1, toNat_add1, List.length_map, getD_map, ct, cf, beqd, bned, cp, cn, cnp, cnn, if_pos, if_neg, wrap64, Option.bind_some, Bool.not_true, Bool.not_false, List.isEmpty_nil, List.nil_append, List.length_nil, List.length_cons, Nat.zero_add, alive_is, ga, gb, gc, h1, h2, h3, ea, eb, ec, c1, c2, c3, c4, c5, ra, rb, rc, r1, r2, r3, ne_eq, not_true_eq_false, not_false_eq_true, e, x0, k1, k2, k3]

theorem policyTotal_law : LawTrue ty tab 4 [⟨true, ks0⟩, ⟨true, ks0⟩, ⟨true, ks0⟩] := by
  refine lawTrue_of fun dd hf hw => ?_
  obtain ⟨d1, dd, rfl, h1, hf⟩ := fitsV_cons hf
  obtain ⟨d2, dd, rfl, h2, hf⟩ := fitsV_cons hf
  obtain ⟨d3, dd, rfl, h3, hf⟩ := fitsV_cons hf
  obtain rfl := fitsV_nil hf
  have w1 := hw d1 (by simp)
  have w2 := hw d2 (by simp)
  have w3 := hw d3 (by simp)
  exact policyTotal_cl d1 d2 d3 (jd_of h1 w1) (jd_of h2 w2) (jd_of h3 w3) (slen_of h1 w1) (slen_of h2 w2) (slen_of h3 w3)

end Go.Proofs.Ytekkbhmlocageaa.Own
