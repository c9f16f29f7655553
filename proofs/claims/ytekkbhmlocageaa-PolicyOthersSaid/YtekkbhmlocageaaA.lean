import Derived.Test.YtekkbhmlocageaaNum
namespace Go.Proofs.Ytekkbhmlocageaa.Own
open Go Go.Proofs.Ytekkbhmlocageaa.GD
set_option linter.unusedVariables false
set_option linter.unusedSimpArgs false

/-! verdicts -/
def one (a x : Int) : Int := if a = x then 1 else 0
def cntF (a b c x : Int) : Int := one a x + one b x + one c x

theorem parts_ok (a b c : Int) : Cl ty tab 37 [.agg [.int .u8 a, .int .u8 b, .int .u8 c]] = some [.agg [.int .u8 a, .int .u8 b, .int .u8 c]] := s_policy_parts 0 _ _ _ rfl

theorem iter_s {R : Type} (k : Nat) (F : List D → (List D → Option R) → Option R) (vs : List D) : iter (k + 1) F vs = F vs (iter k F) := rfl

theorem count_ok (a b c x : Int) : Cl ty tab 36 [.agg [.int .u8 a, .int .u8 b, .int .u8 c], .int .u8 x] = some [.int .i64 (cntF a b c x)] := by
  refine s_policy_count 4 _ _ _ _ ?_
  unfold policy_count cntF one
  by_cases h1 : a = x <;> by_cases h2 : b = x <;> by_cases h3 : c = x <;>
    simp (disch := omega) only [decide_true, decide_false, if_true, if_false, Bool.false_eq_true, Bool.true_eq_false, eq_self, Bool.true_or, Bool.false_or, Bool.true_and, Bool.false_and, Bool.or_true, Bool.or_false, Bool.and_true, Bool.and_false, List.getD_cons_zero, List.getD_cons_succ, cell_int, cell_bool, cell_str, cell_sl, cell_agg, i_int, b_bool, s_str, nb_sl, els_sl, nb_ov, els_ov, cs_pv, cs_agg, Int.toNat_natCast, toNat_sub1, toNat_add1, List.length_map, getD_map, ct, cf, beqd, bned, cp, cn, cnp, cnn, if_pos, if_neg, wrap64, Option.bind_some, Bool.not_true, Bool.not_false, List.isEmpty_nil, List.nil_append, List.length_nil, List.length_cons, Nat.zero_add, parts_ok, iter_s, policy_count.b0, h1, h2, h3, Int.reduceAdd, Int.reduceToNat, Int.zero_add, Int.add_zero]

theorem rcount_ok (a b c x : Int) : Cl ty tab 50 [.agg [.int .u8 a, .int .u8 b, .int .u8 c], .int .u8 x] = some [.int .i64 (cntF a b c x)] := by
  refine s_gatepathref44_count 0 _ _ _ _ ?_
  unfold gatepathref44_count cntF one
  by_cases h1 : a = x <;> by_cases h2 : b = x <;> by_cases h3 : c = x <;>
    simp (disch := omega) only [decide_true, decide_false, if_true, if_false, Bool.false_eq_true, Bool.true_eq_false, eq_self, Bool.true_or, Bool.false_or, Bool.true_and, Bool.false_and, Bool.or_true, Bool.or_false, Bool.and_true, Bool.and_false, List.getD_cons_zero, List.getD_cons_succ, cell_int, cell_bool, cell_str, cell_sl, cell_agg, i_int, b_bool, s_str, nb_sl, els_sl, nb_ov, els_ov, cs_pv, cs_agg, Int.toNat_natCast, toNat_sub1, toNat_add1, List.length_map, getD_map, ct, cf, beqd, bned, cp, cn, cnp, cnn, if_pos, if_neg, wrap64, Option.bind_some, Bool.not_true, Bool.not_false, List.isEmpty_nil, List.nil_append, List.length_nil, List.length_cons, Nat.zero_add, h1, h2, h3, Int.reduceAdd, Int.zero_add, Int.add_zero]

def knownF (a b c : Int) : Bool := decide (a ≤ 2) && (decide (b ≤ 2) && decide (c ≤ 2))

theorem one_cases (a x : Int) : one a x = 0 ∨ one a x = 1 := by unfold one; split <;> simp

theorem cnt_rng (a b c x : Int) : 0 ≤ cntF a b c x ∧ cntF a b c x ≤ 3 := by
  unfold cntF
  have := one_cases a x; have := one_cases b x; have := one_cases c x
  omega

theorem one_sum (a : Int) (h : 0 ≤ a) : one a 0 + one a 1 + one a 2 = if a ≤ 2 then 1 else 0 := by
  unfold one
  by_cases h0 : a = 0
  · simp [h0]
  · by_cases h1 : a = 1
    · simp [h1]
    · by_cases h2 : a = 2
      · simp [h2]
      · have : ¬ a ≤ 2 := by omega
        simp [h0, h1, h2, this]

theorem known_ok (a b c : Int) (ha : 0 ≤ a) (hb : 0 ≤ b) (hc : 0 ≤ c) : Cl ty tab 19 [.agg [.int .u8 a, .int .u8 b, .int .u8 c]] = some [.bool (knownF a b c)] := by
  refine s_policy_known 0 _ _ _ ?_
  unfold policy_known
  have r0 := cnt_rng a b c 0; have r1 := cnt_rng a b c 1; have r2 := cnt_rng a b c 2
  simp (disch := omega) only [decide_true, decide_false, if_true, if_false, Bool.false_eq_true, Bool.true_eq_false, eq_self, Bool.true_or, Bool.false_or, Bool.true_and, Bool.false_and, Bool.or_true, Bool.or_false, Bool.and_true, Bool.and_false, List.getD_cons_zero, List.getD_cons_succ, cell_int, cell_bool, cell_str, cell_sl, cell_agg, i_int, b_bool, s_str, nb_sl, els_sl, nb_ov, els_ov, cs_pv, cs_agg, Int.toNat_natCast, toNat_sub1, toNat_add1, List.length_map, getD_map, ct, cf, beqd, bned, cp, cn, cnp, cnn, if_pos, if_neg, wrap64, Option.bind_some, Bool.not_true, Bool.not_false, List.isEmpty_nil, List.nil_append, List.length_nil, List.length_cons, Nat.zero_add, count_ok]
  congr 2
  have e1 := one_sum a ha; have e2 := one_sum b hb; have e3 := one_sum c hc
  unfold cntF knownF
  by_cases h1 : a ≤ 2 <;> by_cases h2 : b ≤ 2 <;> by_cases h3 : c ≤ 2 <;> simp only [h1, h2, h3, if_true, if_false] at e1 e2 e3 <;>
    simp only [h1, h2, h3, decide_true, decide_false, Bool.and_true, Bool.and_false, Bool.true_and, Bool.false_and, D.bool.injEq, List.cons.injEq, and_true, decide_eq_true_eq, decide_eq_false_iff_not] <;> omega

theorem rverdict_ok (a b c : Int) : Cl ty tab 21 [.agg [.int .u8 a, .int .u8 b, .int .u8 c]] = some [.bool (knownF a b c)] := by
  refine s_gatepathref44_verdict 0 _ _ _ ?_
  unfold gatepathref44_verdict knownF
  by_cases h1 : a ≤ 2 <;> by_cases h2 : b ≤ 2 <;> simp (disch := omega) only [decide_true, decide_false, if_true, if_false, Bool.false_eq_true, Bool.true_eq_false, eq_self, Bool.true_or, Bool.false_or, Bool.true_and, Bool.false_and, Bool.or_true, Bool.or_false, Bool.and_true, Bool.and_false, List.getD_cons_zero, List.getD_cons_succ, cell_int, cell_bool, cell_str, cell_sl, cell_agg, i_int, b_bool, s_str, nb_sl, els_sl, nb_ov, els_ov, cs_pv, cs_agg, Int.toNat_natCast, toNat_sub1, toNat_add1, List.length_map, getD_map, ct, cf, beqd, bned, cp, cn, cnp, cnn, if_pos, if_neg, wrap64, Option.bind_some, Bool.not_true, Bool.not_false, List.isEmpty_nil, List.nil_append, List.length_nil, List.length_cons, Nat.zero_add, h1, h2]

end Go.Proofs.Ytekkbhmlocageaa.Own
