import Derived.Test.YtmfhhbiaghejjaaD
import Derived.Test.YtmfhhbiaghejjaaRFreshLists
namespace Go.Proofs.Ytmfhhbiaghejjaa.Own
open Go Go.Proofs.Ytmfhhbiaghejjaa.GD
set_option linter.unusedVariables false
set_option linter.unusedSimpArgs false

theorem fine_of {els : List D} {nb : Bool} (h : WT ty (.sl 47 nb els)) : Fine els ∧ (nb = true → els = []) := by
  obtain ⟨hl, hn, hf, hw⟩ := h.els
  exact ⟨⟨hl, fun d hd => hf ⟨true, ks0⟩ (by rfl) d hd⟩, hn⟩

theorem freshLists_cl (n : Bool) (l : List D) (now pat : Int) (s : ByteArray) (hl : Fine l) (hn : n = true → l = []) : Cl ty tab 4 [.sl 47 n l, .int .i64 now, .int .i64 pat, .str s] = some [.bool true] := by
  refine s_gatepathlaw29_FreshLists 0 _ _ _ _ _ ?_
  unfold gatepathlaw29_FreshLists
  simp (disch := omega) only [decide_true, decide_false, if_true, if_false, Bool.false_eq_true, Bool.true_eq_false, eq_self, Bool.true_or, Bool.false_or, Bool.true_and, Bool.false_and, Bool.or_true, Bool.or_false, Bool.and_true, Bool.and_false, List.getD_cons_zero, List.getD_cons_succ, cell_int, cell_bool, cell_str, cell_sl, cell_agg, i_int, b_bool, s_str, nb_sl, els_sl, nb_ov, els_ov, cs_pv, cs_agg, Int.toNat_natCast, toNat_sub1, toNat_add1, List.length_map, getD_map, ct, cf, beqd, bned, cp, cn, cnp, cnn, if_pos, if_neg, wrap64, Option.bind_some, Bool.not_true, Bool.not_false, List.isEmpty_nil, List.nil_append, List.length_nil, List.length_cons, Nat.zero_add, great_ok n l hl]
  cases hg : greatF l
  case true => simp (disch := omega) only [decide_true, decide_false, if_true, if_false, Bool.false_eq_true, Bool.true_eq_false, eq_self, Bool.true_or, Bool.false_or, Bool.true_and, Bool.false_and, Bool.or_true, Bool.or_false, Bool.and_true, Bool.and_false, List.getD_cons_zero, List.getD_cons_succ, cell_int, cell_bool, cell_str, cell_sl, cell_agg, i_int, b_bool, s_str, nb_sl, els_sl, nb_ov, els_ov, cs_pv, cs_agg, Int.toNat_natCast, toNat_sub1, toNat_add1, List.length_map, getD_map, ct, cf, beqd, bned, cp, cn, cnp, cnn, if_pos, if_neg, wrap64, Option.bind_some, Bool.not_true, Bool.not_false, List.isEmpty_nil, List.nil_append, List.length_nil, List.length_cons, Nat.zero_add]
  have hg2 := (greatF_small hg).1
  by_cases h1 : 300 < s.size
  · simp (disch := omega) only [decide_true, decide_false, if_true, if_false, Bool.false_eq_true, Bool.true_eq_false, eq_self, Bool.true_or, Bool.false_or, Bool.true_and, Bool.false_and, Bool.or_true, Bool.or_false, Bool.and_true, Bool.and_false, List.getD_cons_zero, List.getD_cons_succ, cell_int, cell_bool, cell_str, cell_sl, cell_agg, i_int, b_bool, s_str, nb_sl, els_sl, nb_ov, els_ov, cs_pv, cs_agg, Int.toNat_natCast, toNat_sub1, toNat_add1, List.length_map, getD_map, ct, cf, beqd, bned, cp, cn, cnp, cnn, if_pos, if_neg, wrap64, Option.bind_some, Bool.not_true, Bool.not_false, List.isEmpty_nil, List.nil_append, List.length_nil, List.length_cons, Nat.zero_add]
  obtain ⟨m, hm⟩ := rforget_ok n l s hl
  simp (disch := omega) only [decide_true, decide_false, if_true, if_false, Bool.false_eq_true, Bool.true_eq_false, eq_self, Bool.true_or, Bool.false_or, Bool.true_and, Bool.false_and, Bool.or_true, Bool.or_false, Bool.and_true, Bool.and_false, List.getD_cons_zero, List.getD_cons_succ, cell_int, cell_bool, cell_str, cell_sl, cell_agg, i_int, b_bool, s_str, nb_sl, els_sl, nb_ov, els_ov, cs_pv, cs_agg, Int.toNat_natCast, toNat_sub1, toNat_add1, List.length_map, getD_map, ct, cf, beqd, bned, cp, cn, cnp, cnn, if_pos, if_neg, wrap64, Option.bind_some, Bool.not_true, Bool.not_false, List.isEmpty_nil, List.nil_append, List.length_nil, List.length_cons, Nat.zero_add, late_ok n l now pat hl, rlate_ok n l now pat hl, forget_ok n l s hl hn, hm, check_ok n l hl, rcheck_ok n l hl]
  have eL : ∃ L : List ByteArray, lateL now pat l = L.map D.str ∧ L.length ≤ 210 := ⟨(l.filter (lateF now pat)).map fun d => (d.cell 0).s, by unfold lateL; rw [List.map_map]; rfl, by rw [List.length_map]; have := List.length_filter_le (lateF now pat) l; omega⟩
  obtain ⟨L, eL, hL⟩ := eL
  have hd := dropP_len l s.toList
  have e0 : ([] : List D) = ([] : List ByteArray).map D.str := rfl
  have a1 : ∀ b c, Cl ty tab 21 [.sl 9 b [], .sl 9 c []] = some [.bool true] := fun b c => sameS_ok b c [] (by simp)
  have a2 : ∀ b c, Cl ty tab 21 [.sl 9 b (L.map D.str), .sl 9 c (L.map D.str)] = some [.bool true] := fun b c => sameS_ok b c L (by omega)
  have a3 : ∀ b c, Cl ty tab 14 [.sl 47 b [], .sl 47 c []] = some [.bool true] := fun b c => sameP_ok b c [] (by simp)
  have a4 : ∀ b c, Cl ty tab 14 [.sl 47 b (dropP l s.toList), .sl 47 c (dropP l s.toList)] = some [.bool true] := fun b c => sameP_ok b c _ (by omega)
  unfold lateR forgetR
  rw [eL]
  by_cases hc : checkF l = 0
  · cases hmm : (mom now && mom pat) <;> cases ha : atS l s.toList <;> simp (disch := omega) only [decide_true, decide_false, if_true, if_false, Bool.false_eq_true, Bool.true_eq_false, eq_self, Bool.true_or, Bool.false_or, Bool.true_and, Bool.false_and, Bool.or_true, Bool.or_false, Bool.and_true, Bool.and_false, List.getD_cons_zero, List.getD_cons_succ, cell_int, cell_bool, cell_str, cell_sl, cell_agg, i_int, b_bool, s_str, nb_sl, els_sl, nb_ov, els_ov, cs_pv, cs_agg, Int.toNat_natCast, toNat_sub1, toNat_add1, List.length_map, getD_map, ct, cf, beqd, bned, cp, cn, cnp, cnn, if_pos, if_neg, wrap64, Option.bind_some, Bool.not_true, Bool.not_false, List.isEmpty_nil, List.nil_append, List.length_nil, List.length_cons, Nat.zero_add, hc, ne_eq, not_true_eq_false, a1, a2, a3, a4]
  · simp (disch := omega) only [decide_true, decide_false, if_true, if_false, Bool.false_eq_true, Bool.true_eq_false, eq_self, Bool.true_or, Bool.false_or, Bool.true_and, Bool.false_and, Bool.or_true, Bool.or_false, Bool.and_true, Bool.and_false, List.getD_cons_zero, List.getD_cons_succ, cell_int, cell_bool, cell_str, cell_sl, cell_agg, i_int, b_bool, s_str, nb_sl, els_sl, nb_ov, els_ov, cs_pv, cs_agg, Int.toNat_natCast, toNat_sub1, toNat_add1, List.length_map, getD_map, ct, cf, beqd, bned, cp, cn, cnp, cnn, if_pos, if_neg, wrap64, Option.bind_some, Bool.not_true, Bool.not_false, List.isEmpty_nil, List.nil_append, List.length_nil, List.length_cons, Nat.zero_add, hc, ne_eq, not_false_eq_true, a1, a3]

theorem freshLists_law : LawTrue ty tab 4 [⟨false, [.sl 47]⟩, ⟨false, [.int .i64]⟩, ⟨false, [.int .i64]⟩, ⟨false, [.str]⟩] := by
  refine lawTrue_of fun dd hf hw => ?_
  obtain ⟨d1, dd, rfl, h1, hf⟩ := fitsV_cons hf
  obtain ⟨d2, dd, rfl, h2, hf⟩ := fitsV_cons hf
  obtain ⟨d3, dd, rfl, h3, hf⟩ := fitsV_cons hf
  obtain ⟨d4, dd, rfl, h4, hf⟩ := fitsV_cons hf
  obtain rfl := fitsV_nil hf
  obtain ⟨n, els, rfl⟩ := fits_sl (fits_one h1)
  obtain ⟨x, rfl⟩ := fits_int (fits_one h2)
  obtain ⟨y, rfl⟩ := fits_int (fits_one h3)
  obtain ⟨s, rfl⟩ := fits_str (fits_one h4)
  obtain ⟨hl, hn⟩ := fine_of (hw (.sl 47 n els) (by simp))
  exact freshLists_cl n els x y s hl hn

end Go.Proofs.Ytmfhhbiaghejjaa.Own
