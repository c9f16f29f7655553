import Derived.Test.YtmfhhbiaghejjaaO
import Derived.Test.YtmfhhbiaghejjaaRFreshMerges
namespace Go.Proofs.Ytmfhhbiaghejjaa.Own
open Go Go.Proofs.Ytmfhhbiaghejjaa.GD
set_option linter.unusedVariables false
set_option linter.unusedSimpArgs false

theorem fine_em {els : List D} {nb : Bool} (h : WT ty (.sl 47 nb els)) : Fine els := by
  obtain ⟨hl, hn, hf, hw⟩ := h.els
  exact ⟨hl, fun d hd => hf ⟨true, ks0⟩ (by rfl) d hd⟩

theorem mergeR_two (a b : List D) (f g : List D → Bool) : ∃ (n m : Bool) (l : List D) (e : Int), mergeR a b f = [.ov 47 n l, .int .i64 e] ∧ mergeR a b g = [.ov 47 m l, .int .i64 e] ∧ l.length ≤ 200 := by
  unfold mergeR
  split
  · exact ⟨_, _, _, _, rfl, rfl, by simp⟩
  · split
    · exact ⟨_, _, _, _, rfl, rfl, by simp⟩
    · cases zipF a b with
      | none => exact ⟨_, _, _, _, rfl, rfl, by simp⟩
      | some z =>
        by_cases h : 200 < z.length
        · refine ⟨true, true, [], 16, ?_, ?_, by simp⟩ <;> exact if_pos h
        · refine ⟨_, _, z, 0, if_neg h, if_neg h, by omega⟩

theorem freshMerges_cl (n m : Bool) (a b : List D) (ha : Fine a) (hb : Fine b) : Cl ty tab 3 [.sl 47 n a, .sl 47 m b] = some [.bool true] := by
  refine s_gatepathlaw29_FreshMerges 0 _ _ _ _ ?_
  unfold gatepathlaw29_FreshMerges
  simp (disch := omega) only [decide_true, decide_false, if_true, if_false, Bool.false_eq_true, Bool.true_eq_false, eq_self, Bool.true_or, Bool.false_or, Bool.true_and, Bool.false_and, Bool.or_true, Bool.or_false, Bool.and_true, Bool.and_false, List.getD_cons_zero, List.getD_cons_succ, cell_int, cell_bool, cell_str, cell_sl, cell_agg, i_int, b_bool, s_str, nb_sl, els_sl, nb_ov, els_ov, cs_pv, cs_agg, Int.toNat_natCast, toNat_sub1, toNat_add1, List.length_map, getD_map, ct, cf, beqd, bned, cp, cn, cnp, cnn, if_pos, if_neg, wrap64, Option.bind_some, Bool.not_true, Bool.not_false, List.isEmpty_nil, List.nil_append, List.length_nil, List.length_cons, Nat.zero_add, great_ok n a ha]
  cases hg : greatF a
  case true => simp (disch := omega) only [decide_true, decide_false, if_true, if_false, Bool.false_eq_true, Bool.true_eq_false, eq_self, Bool.true_or, Bool.false_or, Bool.true_and, Bool.false_and, Bool.or_true, Bool.or_false, Bool.and_true, Bool.and_false, List.getD_cons_zero, List.getD_cons_succ, cell_int, cell_bool, cell_str, cell_sl, cell_agg, i_int, b_bool, s_str, nb_sl, els_sl, nb_ov, els_ov, cs_pv, cs_agg, Int.toNat_natCast, toNat_sub1, toNat_add1, List.length_map, getD_map, ct, cf, beqd, bned, cp, cn, cnp, cnn, if_pos, if_neg, wrap64, Option.bind_some, Bool.not_true, Bool.not_false, List.isEmpty_nil, List.nil_append, List.length_nil, List.length_cons, Nat.zero_add]
  simp (disch := omega) only [decide_true, decide_false, if_true, if_false, Bool.false_eq_true, Bool.true_eq_false, eq_self, Bool.true_or, Bool.false_or, Bool.true_and, Bool.false_and, Bool.or_true, Bool.or_false, Bool.and_true, Bool.and_false, List.getD_cons_zero, List.getD_cons_succ, cell_int, cell_bool, cell_str, cell_sl, cell_agg, i_int, b_bool, s_str, nb_sl, els_sl, nb_ov, els_ov, cs_pv, cs_agg, Int.toNat_natCast, toNat_sub1, toNat_add1, List.length_map, getD_map, ct, cf, beqd, bned, cp, cn, cnp, cnn, if_pos, if_neg, wrap64, Option.bind_some, Bool.not_true, Bool.not_false, List.isEmpty_nil, List.nil_append, List.length_nil, List.length_cons, Nat.zero_add, great_ok m b hb]
  cases hg2 : greatF b
  case true => simp (disch := omega) only [decide_true, decide_false, if_true, if_false, Bool.false_eq_true, Bool.true_eq_false, eq_self, Bool.true_or, Bool.false_or, Bool.true_and, Bool.false_and, Bool.or_true, Bool.or_false, Bool.and_true, Bool.and_false, List.getD_cons_zero, List.getD_cons_succ, cell_int, cell_bool, cell_str, cell_sl, cell_agg, i_int, b_bool, s_str, nb_sl, els_sl, nb_ov, els_ov, cs_pv, cs_agg, Int.toNat_natCast, toNat_sub1, toNat_add1, List.length_map, getD_map, ct, cf, beqd, bned, cp, cn, cnp, cnn, if_pos, if_neg, wrap64, Option.bind_some, Bool.not_true, Bool.not_false, List.isEmpty_nil, List.nil_append, List.length_nil, List.length_cons, Nat.zero_add]
  have l1 := (greatF_small hg).1
  have l2 := (greatF_small hg2).1
  obtain ⟨p, q, l, e, e1, e2, e3⟩ := mergeR_two a b (·.isEmpty) fun _ => false
  have m1 := merge_ok n m a b ha hb
  have m2 := rmerge_ok n m a b ha hb
  rw [e1] at m1
  rw [e2] at m2
  have s1 : Cl ty tab 14 [.sl 47 p l, .sl 47 q l] = some [.bool true] := sameP_ok p q l (by omega)
  have s2 : Cl ty tab 14 [.sl 47 n a, .sl 47 false a] = some [.bool true] := sameP_ok n false a (by omega)
  have s3 : Cl ty tab 14 [.sl 47 m b, .sl 47 false b] = some [.bool true] := sameP_ok m false b (by omega)
  clear e1 e2
  simp (disch := omega) only [decide_true, decide_false, if_true, if_false, Bool.false_eq_true, Bool.true_eq_false, eq_self, Bool.true_or, Bool.false_or, Bool.true_and, Bool.false_and, Bool.or_true, Bool.or_false, Bool.and_true, Bool.and_false, List.getD_cons_zero, List.getD_cons_succ, cell_int, cell_bool, cell_str, cell_sl, cell_agg, i_int, b_bool, s_str, nb_sl, els_sl, nb_ov, els_ov, cs_pv, cs_agg, Int.toNat_natCast, toNat_sub1, toNat_add1, List.length_map, getD_map, ct, cf, beqd, bned, cp, cn, cnp, cnn, if_pos, if_neg, wrap64, Option.bind_some, Bool.not_true, Bool.not_false, List.isEmpty_nil, List.nil_append, List.length_nil, List.length_cons, Nat.zero_add, m1, m2, s1, s2, s3]

theorem freshMerges_law : LawTrue ty tab 3 [⟨false, [.sl 47]⟩, ⟨false, [.sl 47]⟩] := by
  refine lawTrue_of fun dd hf hw => ?_
  obtain ⟨d1, dd, rfl, h1, hf⟩ := fitsV_cons hf
  obtain ⟨d2, dd, rfl, h2, hf⟩ := fitsV_cons hf
  obtain rfl := fitsV_nil hf
  obtain ⟨n, a, rfl⟩ := fits_sl (fits_one h1)
  obtain ⟨m, b, rfl⟩ := fits_sl (fits_one h2)
  exact freshMerges_cl n m a b (fine_em (hw (.sl 47 n a) (by simp))) (fine_em (hw (.sl 47 m b) (by simp)))

end Go.Proofs.Ytmfhhbiaghejjaa.Own
