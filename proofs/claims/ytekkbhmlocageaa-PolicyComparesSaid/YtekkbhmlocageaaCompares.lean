import Derived.Test.YtekkbhmlocageaaF
import Derived.Test.YtekkbhmlocageaaRPolicyCompares
namespace Go.Proofs.Ytekkbhmlocageaa.Own
open Go Go.Proofs.Ytekkbhmlocageaa.GD
set_option linter.unusedVariables false
set_option linter.unusedSimpArgs false

theorem policyCompares_cl (x y : Int) (a b : D) (ha : Jd a) (hb : Jd b) (sa : (a.cell 13).els.length ≤ 9223372036854775807) (sb : (b.cell 13).els.length ≤ 9223372036854775807) : Cl ty tab 3 [.agg [.int .u8 x, .int .u8 y], a, b] = some [.bool true] := by
  have := s_gatepathlaw44_PolicyCompares 0 x y a b (r := [.bool true]) ?_
  · rwa [ha.eta, hb.eta] at this
  unfold gatepathlaw44_PolicyCompares
  cases h1 : greatJ a
  case true => simp (disch := omega) only [decide_true, decide_false, if_true, if_false, Bool.false_eq_true, Bool.true_eq_false, eq_self, Bool.true_or, Bool.false_or, Bool.true_and, Bool.false_and, Bool.or_true, Bool.or_false, Bool.and_true, Bool.and_false, List.getD_cons_zero, List.getD_cons_succ, cell_int, cell_bool, cell_str, cell_sl, cell_agg, i_int, b_bool, s_str, nb_sl, els_sl, nb_ov, els_ov, cs_pv, cs_agg, Int.toNat_natCast, toNat_sub1, toNat_add1, List.length_map, getD_map, ct, cf, beqd, bned, cp, cn, cnp, cnn, if_pos, if_neg, wrap64, Option.bind_some, Bool.not_true, Bool.not_false, List.isEmpty_nil, List.nil_append, List.length_nil, List.length_cons, Nat.zero_add, greatJ_ok a sa, h1]
  cases h2 : greatJ b
  case true => simp (disch := omega) only [decide_true, decide_false, if_true, if_false, Bool.false_eq_true, Bool.true_eq_false, eq_self, Bool.true_or, Bool.false_or, Bool.true_and, Bool.false_and, Bool.or_true, Bool.or_false, Bool.and_true, Bool.and_false, List.getD_cons_zero, List.getD_cons_succ, cell_int, cell_bool, cell_str, cell_sl, cell_agg, i_int, b_bool, s_str, nb_sl, els_sl, nb_ov, els_ov, cs_pv, cs_agg, Int.toNat_natCast, toNat_sub1, toNat_add1, List.length_map, getD_map, ct, cf, beqd, bned, cp, cn, cnp, cnn, if_pos, if_neg, wrap64, Option.bind_some, Bool.not_true, Bool.not_false, List.isEmpty_nil, List.nil_append, List.length_nil, List.length_cons, Nat.zero_add, greatJ_ok a sa, greatJ_ok b sb, h1, h2]
  have hacc := accepts_ok x y (a.cell 14).i (a.cell 15).i (a.cell 16).i ha.v1 ha.v2 ha.v3
  have hracc := raccepts_ok x y (a.cell 14).i (a.cell 15).i (a.cell 16).i
  have ea := ha.eta
  have eb := hb.eta
  have hc := Compare_ok a b ha hb
  have hrc := rCompare_ok a b ha hb
  unfold acceptsR at hacc hracc
  unfold compareR at hc hrc
  by_cases c1 : 7 < x ∨ 7 < y ∨ knownF (a.cell 14).i (a.cell 15).i (a.cell 16).i = false
  · rw [if_pos c1] at hacc hracc
    by_cases c2 : rightJ a = true ∧ rightJ b = true
    · rw [if_pos c2] at hc hrc
      simp (disch := omega) only [decide_true, decide_false, if_true, if_false, Bool.false_eq_true, Bool.true_eq_false, eq_self, Bool.true_or, Bool.false_or, Bool.true_and, Bool.false_and, Bool.or_true, Bool.or_false, Bool.and_true, Bool.and_false, List.getD_cons_zero, List.getD_cons_succ, cell_int, cell_bool, cell_str, cell_sl, cell_agg, i_int, b_bool, s_str, nb_sl, els_sl, nb_ov, els_ov, cs_pv, cs_agg, Int.toNat_natCast, toNat_sub1, toNat_add1, List.length_map, getD_map, ct, cf, beqd, bned, cp, cn, cnp, cnn, if_pos, if_neg, wrap64, Option.bind_some, Bool.not_true, Bool.not_false, List.isEmpty_nil, List.nil_append, List.length_nil, List.length_cons, Nat.zero_add, greatJ_ok a sa, greatJ_ok b sb, h1, h2, ea, eb, hacc, hracc, hc, hrc, beq_self_eq_true]
    · rw [if_neg c2] at hc hrc
      simp (disch := omega) only [decide_true, decide_false, if_true, if_false, Bool.false_eq_true, Bool.true_eq_false, eq_self, Bool.true_or, Bool.false_or, Bool.true_and, Bool.false_and, Bool.or_true, Bool.or_false, Bool.and_true, Bool.and_false, List.getD_cons_zero, List.getD_cons_succ, cell_int, cell_bool, cell_str, cell_sl, cell_agg, i_int, b_bool, s_str, nb_sl, els_sl, nb_ov, els_ov, cs_pv, cs_agg, Int.toNat_natCast, toNat_sub1, toNat_add1, List.length_map, getD_map, ct, cf, beqd, bned, cp, cn, cnp, cnn, if_pos, if_neg, wrap64, Option.bind_some, Bool.not_true, Bool.not_false, List.isEmpty_nil, List.nil_append, List.length_nil, List.length_cons, Nat.zero_add, greatJ_ok a sa, greatJ_ok b sb, h1, h2, ea, eb, hacc, hracc, hc, hrc, beq_self_eq_true]
  · rw [if_neg c1] at hacc hracc
    by_cases c2 : rightJ a = true ∧ rightJ b = true
    · rw [if_pos c2] at hc hrc
      simp (disch := omega) only [decide_true, decide_false, if_true, if_false, Bool.false_eq_true, Bool.true_eq_false, eq_self, Bool.true_or, Bool.false_or, Bool.true_and, Bool.false_and, Bool.or_true, Bool.or_false, Bool.and_true, Bool.and_false, List.getD_cons_zero, List.getD_cons_succ, cell_int, cell_bool, cell_str, cell_sl, cell_agg, i_int, b_bool, s_str, nb_sl, els_sl, nb_ov, els_ov, cs_pv, cs_agg, Int.toNat_natCast, toNat_sub1, toNat_add1, List.length_map, getD_map, ct, cf, beqd, bned, cp, cn, cnp, cnn, if_pos, if_neg, wrap64, Option.bind_some, Bool.not_true, Bool.not_false, List.isEmpty_nil, List.nil_append, List.length_nil, List.length_cons, Nat.zero_add, greatJ_ok a sa, greatJ_ok b sb, h1, h2, ea, eb, hacc, hracc, hc, hrc, beq_self_eq_true]
    · rw [if_neg c2] at hc hrc
      simp (disch := omega) only [decide_true, decide_false, if_true, if_false, Bool.false_eq_true, Bool.true_eq_false, eq_self, Bool.true_or, Bool.false_or, Bool.true_and, Bool.false_and, Bool.or_true, Bool.or_false, Bool.and_true, Bool.and_false, List.getD_cons_zero, List.getD_cons_succ, cell_int, cell_bool, cell_str, cell_sl, cell_agg, i_int, b_bool, s_str, nb_sl, els_sl, nb_ov, els_ov, cs_pv, cs_agg, Int.toNat_natCast, toNat_sub1, toNat_add1, List.length_map, getD_map, ct, cf, beqd, bned, cp, cn, cnp, cnn, if_pos, if_neg, wrap64, Option.bind_some, Bool.not_true, Bool.not_false, List.isEmpty_nil, List.nil_append, List.length_nil, List.length_cons, Nat.zero_add, greatJ_ok a sa, greatJ_ok b sb, h1, h2, ea, eb, hacc, hracc, hc, hrc, beq_self_eq_true]

theorem policyCompares_law : LawTrue ty tab 3 [⟨true, [.int .u8, .int .u8]⟩, ⟨true, ks0⟩, ⟨true, ks0⟩] := by
  refine lawTrue_of fun dd hf hw => ?_
  obtain ⟨d1, dd, rfl, h1, hf⟩ := fitsV_cons hf
  obtain ⟨d2, dd, rfl, h2, hf⟩ := fitsV_cons hf
  obtain ⟨d3, dd, rfl, h3, hf⟩ := fitsV_cons hf
  obtain rfl := fitsV_nil hf
  obtain ⟨cs, rfl, hcs⟩ := fits_agg h1
  obtain ⟨e1, cs, rfl, g1, hcs⟩ := fitsL_cons hcs
  obtain ⟨e2, cs, rfl, g2, hcs⟩ := fitsL_cons hcs
  obtain rfl := fitsL_nil hcs
  obtain ⟨x, rfl⟩ := fits_int g1
  obtain ⟨y, rfl⟩ := fits_int g2
  have w2 := hw d2 (by simp)
  have w3 := hw d3 (by simp)
  exact policyCompares_cl x y d2 d3 (jd_of h2 w2) (jd_of h3 w3) (slen_of h2 w2) (slen_of h3 w3)

end Go.Proofs.Ytekkbhmlocageaa.Own
