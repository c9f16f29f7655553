import Derived.Test.YtklbnnkdkkcgoaaF
namespace Go.Proofs.Ytklbnnkdkkcgoaa.Own
open Go Go.Proofs.Ytklbnnkdkkcgoaa.GD
set_option linter.unusedVariables false
set_option linter.unusedSimpArgs false

def l0 : List At := [⟨10, false, [20]⟩, ⟨20, false, [30]⟩, ⟨50, false, [30]⟩]

theorem some_ok : Cl ty tab 33 [] = some [.ov 46 false (l0.map At.d)] := by
  refine s_gatepathlaw41_some 0 ?_
  rfl

theorem up_ok (n m : Bool) (l : List At) (w : Int) (p : List Int) (hl : Fine l) (hp : p.length ≤ 100) (hm : m = true → p = []) :
    Cl ty tab 34 [.sl 46 n (l.map At.d), .int .u8 w, .sl 23 m (U p)] = some [.bool (decide (errF l p = 0) && decide (upF l (sqF p) = w))] := by
  refine s_gatepathlaw41_up 0 _ _ _ _ _ ?_
  unfold gatepathlaw41_up
  by_cases he : errF l p = 0
  · simp (disch := omega) only [decide_true, decide_false, if_true, if_false, Bool.false_eq_true, Bool.true_eq_false, eq_self, Bool.true_or, Bool.false_or, Bool.true_and, Bool.false_and, Bool.or_true, Bool.or_false, Bool.and_true, Bool.and_false, List.getD_cons_zero, List.getD_cons_succ, cell_int, cell_bool, cell_str, cell_sl, cell_agg, i_int, b_bool, s_str, nb_sl, els_sl, nb_ov, els_ov, cs_pv, cs_agg, Int.toNat_natCast, toNat_sub1, toNat_add1, List.length_map, getD_map, ct, cf, beqd, bned, cp, cn, cnp, cnn, if_pos, if_neg, wrap64, Option.bind_some, Bool.not_true, Bool.not_false, List.isEmpty_nil, List.nil_append, List.length_nil, List.length_cons, Nat.zero_add, upstream_ok n m l p hl hp hm, tell, he]
  · simp (disch := omega) only [decide_true, decide_false, if_true, if_false, Bool.false_eq_true, Bool.true_eq_false, eq_self, Bool.true_or, Bool.false_or, Bool.true_and, Bool.false_and, Bool.or_true, Bool.or_false, Bool.and_true, Bool.and_false, List.getD_cons_zero, List.getD_cons_succ, cell_int, cell_bool, cell_str, cell_sl, cell_agg, i_int, b_bool, s_str, nb_sl, els_sl, nb_ov, els_ov, cs_pv, cs_agg, Int.toNat_natCast, toNat_sub1, toNat_add1, List.length_map, getD_map, ct, cf, beqd, bned, cp, cn, cnp, cnn, if_pos, if_neg, wrap64, Option.bind_some, Bool.not_true, Bool.not_false, List.isEmpty_nil, List.nil_append, List.length_nil, List.length_cons, Nat.zero_add, upstream_ok n m l p hl hp hm, tell, he]

theorem down_ok (n m : Bool) (l : List At) (w : Int) (p : List Int) (hl : Fine l) (hp : p.length ≤ 100) (hm : m = true → p = []) :
    Cl ty tab 35 [.sl 46 n (l.map At.d), .int .u8 w, .sl 23 m (U p)] = some [.bool (decide (errF l p = 0) && decide (downF l (sqF p) = w))] := by
  refine s_gatepathlaw41_down 0 _ _ _ _ _ ?_
  unfold gatepathlaw41_down
  by_cases he : errF l p = 0
  · simp (disch := omega) only [decide_true, decide_false, if_true, if_false, Bool.false_eq_true, Bool.true_eq_false, eq_self, Bool.true_or, Bool.false_or, Bool.true_and, Bool.false_and, Bool.or_true, Bool.or_false, Bool.and_true, Bool.and_false, List.getD_cons_zero, List.getD_cons_succ, cell_int, cell_bool, cell_str, cell_sl, cell_agg, i_int, b_bool, s_str, nb_sl, els_sl, nb_ov, els_ov, cs_pv, cs_agg, Int.toNat_natCast, toNat_sub1, toNat_add1, List.length_map, getD_map, ct, cf, beqd, bned, cp, cn, cnp, cnn, if_pos, if_neg, wrap64, Option.bind_some, Bool.not_true, Bool.not_false, List.isEmpty_nil, List.nil_append, List.length_nil, List.length_cons, Nat.zero_add, downstream_ok n m l p hl hp hm, tell, he]
  · simp (disch := omega) only [decide_true, decide_false, if_true, if_false, Bool.false_eq_true, Bool.true_eq_false, eq_self, Bool.true_or, Bool.false_or, Bool.true_and, Bool.false_and, Bool.or_true, Bool.or_false, Bool.and_true, Bool.and_false, List.getD_cons_zero, List.getD_cons_succ, cell_int, cell_bool, cell_str, cell_sl, cell_agg, i_int, b_bool, s_str, nb_sl, els_sl, nb_ov, els_ov, cs_pv, cs_agg, Int.toNat_natCast, toNat_sub1, toNat_add1, List.length_map, getD_map, ct, cf, beqd, bned, cp, cn, cnp, cnn, if_pos, if_neg, wrap64, Option.bind_some, Bool.not_true, Bool.not_false, List.isEmpty_nil, List.nil_append, List.length_nil, List.length_cons, Nat.zero_add, downstream_ok n m l p hl hp hm, tell, he]

theorem fine0 : Fine l0 := ⟨by decide, by decide⟩

theorem alive_ok : Cl ty tab 23 [] = some [.bool true] := by
  refine s_gatepathlaw41_alive 0 ?_
  unfold gatepathlaw41_alive
  have u := fun w p h => up_ok false false l0 w p fine0 h (by simp)
  have d := fun w p h => down_ok false false l0 w p fine0 h (by simp)
  have r := fun p h => ramps_ok false false l0 p fine0 h (by simp)
  have u1 := u 1 [20, 10] (by decide)
  have u2 := u 1 [30, 20, 10] (by decide)
  have u3 := u 0 [50, 30, 20, 10] (by decide)
  have d1 := d 1 [50, 30, 20, 10] (by decide)
  have u4 := u 2 [40, 10] (by decide)
  have d2 := d 1 [40, 10] (by decide)
  have r1 := r [50, 30, 20, 10] (by decide)
  rw [show (decide (errF l0 [20, 10] = 0) && decide (upF l0 (sqF [20, 10]) = 1)) = true by decide] at u1
  rw [show (decide (errF l0 [30, 20, 10] = 0) && decide (upF l0 (sqF [30, 20, 10]) = 1)) = true by decide] at u2
  rw [show (decide (errF l0 [50, 30, 20, 10] = 0) && decide (upF l0 (sqF [50, 30, 20, 10]) = 0)) = true by decide] at u3
  rw [show (decide (errF l0 [50, 30, 20, 10] = 0) && decide (downF l0 (sqF [50, 30, 20, 10]) = 1)) = true by decide] at d1
  rw [show (decide (errF l0 [40, 10] = 0) && decide (upF l0 (sqF [40, 10]) = 2)) = true by decide] at u4
  rw [show (decide (errF l0 [40, 10] = 0) && decide (downF l0 (sqF [40, 10]) = 1)) = true by decide] at d2
  rw [show errF l0 [50, 30, 20, 10] = 0 by decide, if_pos rfl, rampD, show cF l0 doubtH (sqF [50, 30, 20, 10]).reverse = 3 by decide, show cF l0 notH (sqF [50, 30, 20, 10]).reverse = 4 by decide, show cF l0 doubtH (sqF [50, 30, 20, 10]) = 2 by decide, show cF l0 notH (sqF [50, 30, 20, 10]) = 3 by decide] at r1
  simp only [U, List.map_cons, List.map_nil] at u1 u2 u3 d1 u4 d2 r1
  simp (disch := omega) only [decide_true, decide_false, if_true, if_false, Bool.false_eq_true, Bool.true_eq_false, eq_self, Bool.true_or, Bool.false_or, Bool.true_and, Bool.false_and, Bool.or_true, Bool.or_false, Bool.and_true, Bool.and_false, List.getD_cons_zero, List.getD_cons_succ, cell_int, cell_bool, cell_str, cell_sl, cell_agg, i_int, b_bool, s_str, nb_sl, els_sl, nb_ov, els_ov, cs_pv, cs_agg, Int.toNat_natCast, toNat_sub1, toNat_add1, List.length_map, getD_map, ct, cf, beqd, bned, cp, cn, cnp, cnn, if_pos, if_neg, wrap64, Option.bind_some, Bool.not_true, Bool.not_false, List.isEmpty_nil, List.nil_append, List.length_nil, List.length_cons, Nat.zero_add, some_ok, u1, u2, u3, d1, u4, d2, r1]
  rfl

end Go.Proofs.Ytklbnnkdkkcgoaa.Own
