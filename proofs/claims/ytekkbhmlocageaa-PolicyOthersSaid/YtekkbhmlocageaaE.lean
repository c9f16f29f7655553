import Derived.Test.YtekkbhmlocageaaD
namespace Go.Proofs.Ytekkbhmlocageaa.Own
open Go Go.Proofs.Ytekkbhmlocageaa.GD
set_option linter.unusedVariables false
set_option linter.unusedSimpArgs false

theorem wrap_u32i {x : Int} (h : 0 ≤ x ∧ x < 4294967296) : IntKind.i64.wrap x = x := wrap64 (by omega) (by omega)

theorem k1_ok (d : D) (h : Jd d) : Cl ty tab 40 [d] = some [.int .i64 (bads d)] := by
  have := s_policy_compare_1 0 d (r := [.int .i64 (bads d)]) ?_
  · rwa [h.eta] at this
  unfold policy_compare_1
  simp (disch := omega) only [decide_true, decide_false, if_true, if_false, Bool.false_eq_true, Bool.true_eq_false, eq_self, Bool.true_or, Bool.false_or, Bool.true_and, Bool.false_and, Bool.or_true, Bool.or_false, Bool.and_true, Bool.and_false, List.getD_cons_zero, List.getD_cons_succ, cell_int, cell_bool, cell_str, cell_sl, cell_agg, i_int, b_bool, s_str, nb_sl, els_sl, nb_ov, els_ov, cs_pv, cs_agg, Int.toNat_natCast, toNat_sub1, toNat_add1, List.length_map, getD_map, ct, cf, beqd, bned, cp, cn, cnp, cnn, if_pos, if_neg, wrap64, Option.bind_some, Bool.not_true, Bool.not_false, List.isEmpty_nil, List.nil_append, List.length_nil, List.length_cons, Nat.zero_add, count_ok]; rfl
theorem k2_ok (d : D) (h : Jd d) : Cl ty tab 41 [d] = some [.int .i64 (0 - (d.cell 6).i)] := by
  have := s_policy_compare_2 0 d (r := [.int .i64 (0 - (d.cell 6).i)]) ?_
  · rwa [h.eta] at this
  unfold policy_compare_2
  have := h.loc
  simp (disch := omega) only [decide_true, decide_false, if_true, if_false, Bool.false_eq_true, Bool.true_eq_false, eq_self, Bool.true_or, Bool.false_or, Bool.true_and, Bool.false_and, Bool.or_true, Bool.or_false, Bool.and_true, Bool.and_false, List.getD_cons_zero, List.getD_cons_succ, cell_int, cell_bool, cell_str, cell_sl, cell_agg, i_int, b_bool, s_str, nb_sl, els_sl, nb_ov, els_ov, cs_pv, cs_agg, Int.toNat_natCast, toNat_sub1, toNat_add1, List.length_map, getD_map, ct, cf, beqd, bned, cp, cn, cnp, cnn, if_pos, if_neg, wrap64, Option.bind_some, Bool.not_true, Bool.not_false, List.isEmpty_nil, List.nil_append, List.length_nil, List.length_cons, Nat.zero_add]
theorem k3_ok (d : D) (h : Jd d) : Cl ty tab 42 [d] = some [.int .i64 (0 - vals d)] := by
  have := s_policy_compare_3 0 d (r := [.int .i64 (0 - vals d)]) ?_
  · rwa [h.eta] at this
  unfold policy_compare_3
  have := cnt_rng (d.cell 14).i (d.cell 15).i (d.cell 16).i 1
  simp (disch := omega) only [decide_true, decide_false, if_true, if_false, Bool.false_eq_true, Bool.true_eq_false, eq_self, Bool.true_or, Bool.false_or, Bool.true_and, Bool.false_and, Bool.or_true, Bool.or_false, Bool.and_true, Bool.and_false, List.getD_cons_zero, List.getD_cons_succ, cell_int, cell_bool, cell_str, cell_sl, cell_agg, i_int, b_bool, s_str, nb_sl, els_sl, nb_ov, els_ov, cs_pv, cs_agg, Int.toNat_natCast, toNat_sub1, toNat_add1, List.length_map, getD_map, ct, cf, beqd, bned, cp, cn, cnp, cnn, if_pos, if_neg, wrap64, Option.bind_some, Bool.not_true, Bool.not_false, List.isEmpty_nil, List.nil_append, List.length_nil, List.length_cons, Nat.zero_add, count_ok]; rfl
theorem k4_ok (d : D) (h : Jd d) : Cl ty tab 43 [d] = some [.int .i64 ((d.cell 4).els.length : Nat)] := by
  have := s_policy_compare_4 0 d (r := [.int .i64 ((d.cell 4).els.length : Nat)]) rfl
  rwa [h.eta] at this
theorem k5_ok (d : D) (h : Jd d) : Cl ty tab 44 [d] = some [.int .i64 (rankJ (d.cell 5).i)] := by
  have := s_policy_compare_5 0 d (r := [.int .i64 (rankJ (d.cell 5).i)]) ?_
  · rwa [h.eta] at this
  unfold policy_compare_5
  have := index_ok false ranksL (d.cell 5).i (by decide)
  simp (disch := omega) only [decide_true, decide_false, if_true, if_false, Bool.false_eq_true, Bool.true_eq_false, eq_self, Bool.true_or, Bool.false_or, Bool.true_and, Bool.false_and, Bool.or_true, Bool.or_false, Bool.and_true, Bool.and_false, List.getD_cons_zero, List.getD_cons_succ, cell_int, cell_bool, cell_str, cell_sl, cell_agg, i_int, b_bool, s_str, nb_sl, els_sl, nb_ov, els_ov, cs_pv, cs_agg, Int.toNat_natCast, toNat_sub1, toNat_add1, List.length_map, getD_map, ct, cf, beqd, bned, cp, cn, cnp, cnn, if_pos, if_neg, wrap64, Option.bind_some, Bool.not_true, Bool.not_false, List.isEmpty_nil, List.nil_append, List.length_nil, List.length_cons, Nat.zero_add, ranks_ok, this]; rfl
theorem k6_ok (d : D) (h : Jd d) : Cl ty tab 47 [d] = some [.int .i64 (d.cell 7).i] := by
  have := s_policy_compare_6 0 d (r := [.int .i64 (d.cell 7).i]) ?_
  · rwa [h.eta] at this
  unfold policy_compare_6
  rw [wrap_u32i h.med]
theorem k7_ok (d : D) (h : Jd d) : Cl ty tab 48 [d] = some [.int .i64 (d.cell 8).i] := by
  have := s_policy_compare_7 0 d (r := [.int .i64 (d.cell 8).i]) ?_
  · rwa [h.eta] at this
  unfold policy_compare_7
  rw [wrap_u32i h.rou]

theorem sgn_neg (a b : Int) : sgn (0 - a) (0 - b) = sgn b a := by
  unfold sgn
  by_cases h1 : a < b
  · have : ¬ 0 - a < 0 - b := by omega
    have : 0 - b < 0 - a := by omega
    have : ¬ b < a := by omega
    simp [*]
  · by_cases h2 : b < a
    · have : 0 - a < 0 - b := by omega
      simp [*]
    · have : ¬ 0 - a < 0 - b := by omega
      have : ¬ 0 - b < 0 - a := by omega
      simp [*]

theorem pathJ_map {d : D} (h : Jd d) : (d.cell 4).els = (pathJ d).map (D.int .u32) ∧ (pathJ d).length = (d.cell 4).els.length := by
  obtain ⟨L, e, _⟩ := h.path
  unfold pathJ
  have : (L.map (D.int .u32)).map D.i = L := by rw [List.map_map]; exact List.map_id _
  rw [e, this]
  exact ⟨rfl, by simp⟩

theorem by_ok (a b : D) (ha : Jd a) (hb : Jd b) : Cl ty tab 39 [a, b, .sl 91 false [.fn 40 [], .fn 41 [], .fn 42 [], .fn 43 [], .fn 44 [], .fn 47 [], .fn 48 []]] = some [.int .i64 (cmpJ a b)] := by
  have := s_policy_by 0 a b (r := [.int .i64 (cmpJ a b)]) ?_
  · rwa [ha.eta, hb.eta] at this
  unfold policy_by
  have ea := ha.eta
  have eb := hb.eta
  obtain ⟨pa, la⟩ := pathJ_map ha
  obtain ⟨pb, lb⟩ := pathJ_map hb
  have hap := ha.plen
  have hbp := hb.plen
  have hpp : ∀ n m, Cl ty tab 61 [.sl 30 n (a.cell 4).els, .sl 30 m (b.cell 4).els] = some [.int .i64 (pathC (pathJ a) (pathJ b))] := fun n m => by
    rw [pa, pb]; exact paths_ok n m _ _ (by omega) (by omega)
  have q1 := k1_ok a ha; have q2 := k2_ok a ha; have q3 := k3_ok a ha; have q4 := k4_ok a ha; have q5 := k5_ok a ha; have q6 := k6_ok a ha; have q7 := k7_ok a ha
  have r1 := k1_ok b hb; have r2 := k2_ok b hb; have r3 := k3_ok b hb; have r4 := k4_ok b hb; have r5 := k5_ok b hb; have r6 := k6_ok b hb; have r7 := k7_ok b hb
  unfold cmpJ orE
  clear ha hb pa pb la lb hap hbp
  by_cases h1 : sgn (bads a) (bads b) = 0
  case neg => simp (disch := omega) only [decide_true, decide_false, if_true, if_false, Bool.false_eq_true, Bool.true_eq_false, eq_self, Bool.true_or, Bool.false_or, Bool.true_and, Bool.false_and, Bool.or_true, Bool.or_false, Bool.and_true, Bool.and_false, List.getD_cons_zero, List.getD_cons_succ, cell_int, cell_bool, cell_str, cell_sl, cell_agg, i_int, b_bool, s_str, nb_sl, els_sl, nb_ov, els_ov, cs_pv, cs_agg, Int.toNat_natCast, toNat_sub1, toNat_add1, List.length_map, getD_map, ct, cf, beqd, bned, cp, cn, cnp, cnn, if_pos, if_neg, wrap64, Option.bind_some, Bool.not_true, Bool.not_false, List.isEmpty_nil, List.nil_append, List.length_nil, List.length_cons, Nat.zero_add, ea, eb, q1, r1, cmp_ok, h1, ne_eq, not_false_eq_true]
  by_cases h2 : sgn (b.cell 6).i (a.cell 6).i = 0
  case neg => simp (disch := omega) only [decide_true, decide_false, if_true, if_false, Bool.false_eq_true, Bool.true_eq_false, eq_self, Bool.true_or, Bool.false_or, Bool.true_and, Bool.false_and, Bool.or_true, Bool.or_false, Bool.and_true, Bool.and_false, List.getD_cons_zero, List.getD_cons_succ, cell_int, cell_bool, cell_str, cell_sl, cell_agg, i_int, b_bool, s_str, nb_sl, els_sl, nb_ov, els_ov, cs_pv, cs_agg, Int.toNat_natCast, toNat_sub1, toNat_add1, List.length_map, getD_map, ct, cf, beqd, bned, cp, cn, cnp, cnn, if_pos, if_neg, wrap64, Option.bind_some, Bool.not_true, Bool.not_false, List.isEmpty_nil, List.nil_append, List.length_nil, List.length_cons, Nat.zero_add, ea, eb, q1, r1, q2, r2, cmp_ok, sgn_neg, h1, h2, ne_eq, not_false_eq_true, not_true_eq_false]
  by_cases h3 : sgn (vals b) (vals a) = 0
  case neg => simp (disch := omega) only [decide_true, decide_false, if_true, if_false, Bool.false_eq_true, Bool.true_eq_false, eq_self, Bool.true_or, Bool.false_or, Bool.true_and, Bool.false_and, Bool.or_true, Bool.or_false, Bool.and_true, Bool.and_false, List.getD_cons_zero, List.getD_cons_succ, cell_int, cell_bool, cell_str, cell_sl, cell_agg, i_int, b_bool, s_str, nb_sl, els_sl, nb_ov, els_ov, cs_pv, cs_agg, Int.toNat_natCast, toNat_sub1, toNat_add1, List.length_map, getD_map, ct, cf, beqd, bned, cp, cn, cnp, cnn, if_pos, if_neg, wrap64, Option.bind_some, Bool.not_true, Bool.not_false, List.isEmpty_nil, List.nil_append, List.length_nil, List.length_cons, Nat.zero_add, ea, eb, q1, r1, q2, r2, q3, r3, cmp_ok, sgn_neg, h1, h2, h3, ne_eq, not_false_eq_true, not_true_eq_false]
  by_cases h4 : sgn ((a.cell 4).els.length : Nat) ((b.cell 4).els.length : Nat) = 0
  case neg => simp (disch := omega) only [decide_true, decide_false, if_true, if_false, Bool.false_eq_true, Bool.true_eq_false, eq_self, Bool.true_or, Bool.false_or, Bool.true_and, Bool.false_and, Bool.or_true, Bool.or_false, Bool.and_true, Bool.and_false, List.getD_cons_zero, List.getD_cons_succ, cell_int, cell_bool, cell_str, cell_sl, cell_agg, i_int, b_bool, s_str, nb_sl, els_sl, nb_ov, els_ov, cs_pv, cs_agg, Int.toNat_natCast, toNat_sub1, toNat_add1, List.length_map, getD_map, ct, cf, beqd, bned, cp, cn, cnp, cnn, if_pos, if_neg, wrap64, Option.bind_some, Bool.not_true, Bool.not_false, List.isEmpty_nil, List.nil_append, List.length_nil, List.length_cons, Nat.zero_add, ea, eb, q1, r1, q2, r2, q3, r3, q4, r4, cmp_ok, sgn_neg, h1, h2, h3, h4, ne_eq, not_false_eq_true, not_true_eq_false]
  by_cases h5 : sgn (rankJ (a.cell 5).i) (rankJ (b.cell 5).i) = 0
  case neg => simp (disch := omega) only [decide_true, decide_false, if_true, if_false, Bool.false_eq_true, Bool.true_eq_false, eq_self, Bool.true_or, Bool.false_or, Bool.true_and, Bool.false_and, Bool.or_true, Bool.or_false, Bool.and_true, Bool.and_false, List.getD_cons_zero, List.getD_cons_succ, cell_int, cell_bool, cell_str, cell_sl, cell_agg, i_int, b_bool, s_str, nb_sl, els_sl, nb_ov, els_ov, cs_pv, cs_agg, Int.toNat_natCast, toNat_sub1, toNat_add1, List.length_map, getD_map, ct, cf, beqd, bned, cp, cn, cnp, cnn, if_pos, if_neg, wrap64, Option.bind_some, Bool.not_true, Bool.not_false, List.isEmpty_nil, List.nil_append, List.length_nil, List.length_cons, Nat.zero_add, ea, eb, q1, r1, q2, r2, q3, r3, q4, r4, q5, r5, cmp_ok, sgn_neg, h1, h2, h3, h4, h5, ne_eq, not_false_eq_true, not_true_eq_false]
  by_cases h6 : sgn (a.cell 7).i (b.cell 7).i = 0
  case neg => simp (disch := omega) only [decide_true, decide_false, if_true, if_false, Bool.false_eq_true, Bool.true_eq_false, eq_self, Bool.true_or, Bool.false_or, Bool.true_and, Bool.false_and, Bool.or_true, Bool.or_false, Bool.and_true, Bool.and_false, List.getD_cons_zero, List.getD_cons_succ, cell_int, cell_bool, cell_str, cell_sl, cell_agg, i_int, b_bool, s_str, nb_sl, els_sl, nb_ov, els_ov, cs_pv, cs_agg, Int.toNat_natCast, toNat_sub1, toNat_add1, List.length_map, getD_map, ct, cf, beqd, bned, cp, cn, cnp, cnn, if_pos, if_neg, wrap64, Option.bind_some, Bool.not_true, Bool.not_false, List.isEmpty_nil, List.nil_append, List.length_nil, List.length_cons, Nat.zero_add, ea, eb, q1, r1, q2, r2, q3, r3, q4, r4, q5, r5, q6, r6, cmp_ok, sgn_neg, h1, h2, h3, h4, h5, h6, ne_eq, not_false_eq_true, not_true_eq_false]
  by_cases h7 : sgn (a.cell 8).i (b.cell 8).i = 0
  case neg => simp (disch := omega) only [decide_true, decide_false, if_true, if_false, Bool.false_eq_true, Bool.true_eq_false, eq_self, Bool.true_or, Bool.false_or, Bool.true_and, Bool.false_and, Bool.or_true, Bool.or_false, Bool.and_true, Bool.and_false, List.getD_cons_zero, List.getD_cons_succ, cell_int, cell_bool, cell_str, cell_sl, cell_agg, i_int, b_bool, s_str, nb_sl, els_sl, nb_ov, els_ov, cs_pv, cs_agg, Int.toNat_natCast, toNat_sub1, toNat_add1, List.length_map, getD_map, ct, cf, beqd, bned, cp, cn, cnp, cnn, if_pos, if_neg, wrap64, Option.bind_some, Bool.not_true, Bool.not_false, List.isEmpty_nil, List.nil_append, List.length_nil, List.length_cons, Nat.zero_add, ea, eb, q1, r1, q2, r2, q3, r3, q4, r4, q5, r5, q6, r6, q7, r7, cmp_ok, sgn_neg, h1, h2, h3, h4, h5, h6, h7, ne_eq, not_false_eq_true, not_true_eq_false]
  simp (disch := omega) only [decide_true, decide_false, if_true, if_false, Bool.false_eq_true, Bool.true_eq_false, eq_self, Bool.true_or, Bool.false_or, Bool.true_and, Bool.false_and, Bool.or_true, Bool.or_false, Bool.and_true, Bool.and_false, List.getD_cons_zero, List.getD_cons_succ, cell_int, cell_bool, cell_str, cell_sl, cell_agg, i_int, b_bool, s_str, nb_sl, els_sl, nb_ov, els_ov, cs_pv, cs_agg, Int.toNat_natCast, toNat_sub1, toNat_add1, List.length_map, getD_map, ct, cf, beqd, bned, cp, cn, cnp, cnn, if_pos, if_neg, wrap64, Option.bind_some, Bool.not_true, Bool.not_false, List.isEmpty_nil, List.nil_append, List.length_nil, List.length_cons, Nat.zero_add, ea, eb, q1, r1, q2, r2, q3, r3, q4, r4, q5, r5, q6, r6, q7, r7, cmp_ok, sgn_neg, h1, h2, h3, h4, h5, h6, h7, hpp, ne_eq, not_false_eq_true, not_true_eq_false]

theorem compare_ok (a b : D) (ha : Jd a) (hb : Jd b) : Cl ty tab 24 [a, b] = some [.int .i64 (cmpJ a b)] := by
  have := s_policy_compare 0 a b (r := [.int .i64 (cmpJ a b)]) ?_
  · rwa [ha.eta, hb.eta] at this
  unfold policy_compare
  simp (disch := omega) only [decide_true, decide_false, if_true, if_false, Bool.false_eq_true, Bool.true_eq_false, eq_self, Bool.true_or, Bool.false_or, Bool.true_and, Bool.false_and, Bool.or_true, Bool.or_false, Bool.and_true, Bool.and_false, List.getD_cons_zero, List.getD_cons_succ, cell_int, cell_bool, cell_str, cell_sl, cell_agg, i_int, b_bool, s_str, nb_sl, els_sl, nb_ov, els_ov, cs_pv, cs_agg, Int.toNat_natCast, toNat_sub1, toNat_add1, List.length_map, getD_map, ct, cf, beqd, bned, cp, cn, cnp, cnn, if_pos, if_neg, wrap64, Option.bind_some, Bool.not_true, Bool.not_false, List.isEmpty_nil, List.nil_append, List.length_nil, List.length_cons, Nat.zero_add, ha.eta, hb.eta, by_ok a b ha hb]

def compareR (a b : D) : List D := if rightJ a = true ∧ rightJ b = true then [.int .i64 (cmpJ a b), .int .i64 0] else [.int .i64 0, .int .i64 8]

theorem Compare_ok (a b : D) (ha : Jd a) (hb : Jd b) : Cl ty tab 10 [a, b] = some (compareR a b) := by
  have := s_policy_Compare 0 a b (r := compareR a b) ?_
  · rwa [ha.eta, hb.eta] at this
  unfold policy_Compare compareR
  cases h1 : rightJ a
  · simp (disch := omega) only [decide_true, decide_false, if_true, if_false, Bool.false_eq_true, Bool.true_eq_false, eq_self, Bool.true_or, Bool.false_or, Bool.true_and, Bool.false_and, Bool.or_true, Bool.or_false, Bool.and_true, Bool.and_false, List.getD_cons_zero, List.getD_cons_succ, cell_int, cell_bool, cell_str, cell_sl, cell_agg, i_int, b_bool, s_str, nb_sl, els_sl, nb_ov, els_ov, cs_pv, cs_agg, Int.toNat_natCast, toNat_sub1, toNat_add1, List.length_map, getD_map, ct, cf, beqd, bned, cp, cn, cnp, cnn, if_pos, if_neg, wrap64, Option.bind_some, Bool.not_true, Bool.not_false, List.isEmpty_nil, List.nil_append, List.length_nil, List.length_cons, Nat.zero_add, ha.eta, hb.eta, right_ok a ha, h1, false_and]
  · cases h2 : rightJ b
    · simp (disch := omega) only [decide_true, decide_false, if_true, if_false, Bool.false_eq_true, Bool.true_eq_false, eq_self, Bool.true_or, Bool.false_or, Bool.true_and, Bool.false_and, Bool.or_true, Bool.or_false, Bool.and_true, Bool.and_false, List.getD_cons_zero, List.getD_cons_succ, cell_int, cell_bool, cell_str, cell_sl, cell_agg, i_int, b_bool, s_str, nb_sl, els_sl, nb_ov, els_ov, cs_pv, cs_agg, Int.toNat_natCast, toNat_sub1, toNat_add1, List.length_map, getD_map, ct, cf, beqd, bned, cp, cn, cnp, cnn, if_pos, if_neg, wrap64, Option.bind_some, Bool.not_true, Bool.not_false, List.isEmpty_nil, List.nil_append, List.length_nil, List.length_cons, Nat.zero_add, ha.eta, hb.eta, right_ok a ha, right_ok b hb, h1, h2, and_false]
    · simp (disch := omega) only [decide_true, decide_false, if_true, if_false, Bool.false_eq_true, Bool.true_eq_false, eq_self, Bool.true_or, Bool.false_or, Bool.true_and, Bool.false_and, Bool.or_true, Bool.or_false, Bool.and_true, Bool.and_false, List.getD_cons_zero, List.getD_cons_succ, cell_int, cell_bool, cell_str, cell_sl, cell_agg, i_int, b_bool, s_str, nb_sl, els_sl, nb_ov, els_ov, cs_pv, cs_agg, Int.toNat_natCast, toNat_sub1, toNat_add1, List.length_map, getD_map, ct, cf, beqd, bned, cp, cn, cnp, cnn, if_pos, if_neg, wrap64, Option.bind_some, Bool.not_true, Bool.not_false, List.isEmpty_nil, List.nil_append, List.length_nil, List.length_cons, Nat.zero_add, ha.eta, hb.eta, right_ok a ha, right_ok b hb, h1, h2, and_self, compare_ok a b ha hb]

/-! the reference -/
theorem rrank_ok (x : Int) (hx : nearF x = true) : Cl ty tab 51 [.int .u8 x] = some [.int .i64 (rankJ x)] := by
  refine s_gatepathref44_rank 8 _ ?_
  unfold gatepathref44_rank rankJ ranksL
  unfold nearF at hx
  simp only [decide_eq_true_eq] at hx
  have : x = 1 ∨ x = 5 ∨ x = 3 ∨ x = 4 ∨ x = 2 := by omega
  rcases this with rfl | rfl | rfl | rfl | rfl <;> rfl

/-- the first that is not 0 -/
def firstN : List Int → Int
  | [] => 0
  | x :: t => orE x (firstN t)

def zipS : List Int → List Int → List Int
  | a :: s, b :: t => sgn a b :: zipS s t
  | _, _ => []

theorem firstN_zip : ∀ (A B : List Int), A.length = B.length → firstN (zipS A B) = pathC A B
  | [], [], _ => rfl
  | a :: s, b :: t, h => by
    unfold zipS firstN pathC
    rw [firstN_zip s t (by simpa using h)]
  | [], _ :: _, h => by simp at h
  | _ :: _, [], h => by simp at h

theorem firstN_append : ∀ (A B : List Int), firstN (A ++ B) = orE (firstN A) (firstN B)
  | [], B => by simp [firstN, orE]
  | a :: s, B => by
    simp only [List.cons_append, firstN, firstN_append s B]
    unfold orE
    by_cases h : a = 0 <;> simp [h]

theorem find_ok (k : Nat) (hk : 9223372036854775808 < k) (L : List Int) (m : Bool) (hL : L.length ≤ 9223372036854775807) (rest : List D) : iter k (gatepathref44_compare.b1 (Cl ty tab) k (.ov 3 m (L.map (D.int .i64)) :: rest)) [.int .i64 0, .ov 3 m (L.map (D.int .i64))] = some [.int .i64 (firstN L)] := by
  refine iter_ix (F := gatepathref44_compare.b1 (Cl ty tab) k (.ov 3 m (L.map (D.int .i64)) :: rest)) L.length (fun i => [.int .i64 i, .ov 3 m (L.map (D.int .i64))]) (fun i => some [.int .i64 (firstN (L.drop i))]) (fun i hi again ha => ?_) (fun again => ?_) k (by omega) 0 (by omega)
  · unfold gatepathref44_compare.b1
    rw [List.drop_eq_getElem_cons hi]
    unfold firstN orE
    by_cases h : L[i] = 0
    · simp (disch := omega) only [decide_true, decide_false, if_true, if_false, Bool.false_eq_true, Bool.true_eq_false, eq_self, Bool.true_or, Bool.false_or, Bool.true_and, Bool.false_and, Bool.or_true, Bool.or_false, Bool.and_true, Bool.and_false, List.getD_cons_zero, List.getD_cons_succ, cell_int, cell_bool, cell_str, cell_sl, cell_agg, i_int, b_bool, s_str, nb_sl, els_sl, nb_ov, els_ov, cs_pv, cs_agg, Int.toNat_natCast, toNat_sub1, toNat_add1, List.length_map, getD_map, ct, cf, beqd, bned, cp, cn, cnp, cnn, if_pos, if_neg, wrap64, Option.bind_some, Bool.not_true, Bool.not_false, List.isEmpty_nil, List.nil_append, List.length_nil, List.length_cons, Nat.zero_add, h, ne_eq, not_true_eq_false, Int.natCast_add, Int.natCast_one] at ha ⊢
      exact ha
    · simp (disch := omega) only [decide_true, decide_false, if_true, if_false, Bool.false_eq_true, Bool.true_eq_false, eq_self, Bool.true_or, Bool.false_or, Bool.true_and, Bool.false_and, Bool.or_true, Bool.or_false, Bool.and_true, Bool.and_false, List.getD_cons_zero, List.getD_cons_succ, cell_int, cell_bool, cell_str, cell_sl, cell_agg, i_int, b_bool, s_str, nb_sl, els_sl, nb_ov, els_ov, cs_pv, cs_agg, Int.toNat_natCast, toNat_sub1, toNat_add1, List.length_map, getD_map, ct, cf, beqd, bned, cp, cn, cnp, cnn, if_pos, if_neg, wrap64, Option.bind_some, Bool.not_true, Bool.not_false, List.isEmpty_nil, List.nil_append, List.length_nil, List.length_cons, Nat.zero_add, h, ne_eq, not_false_eq_true]
  · unfold gatepathref44_compare.b1
    rw [List.drop_length]
    simp (disch := omega) only [decide_true, decide_false, if_true, if_false, Bool.false_eq_true, Bool.true_eq_false, eq_self, Bool.true_or, Bool.false_or, Bool.true_and, Bool.false_and, Bool.or_true, Bool.or_false, Bool.and_true, Bool.and_false, List.getD_cons_zero, List.getD_cons_succ, cell_int, cell_bool, cell_str, cell_sl, cell_agg, i_int, b_bool, s_str, nb_sl, els_sl, nb_ov, els_ov, cs_pv, cs_agg, Int.toNat_natCast, toNat_sub1, toNat_add1, List.length_map, getD_map, ct, cf, beqd, bned, cp, cn, cnp, cnn, if_pos, if_neg, wrap64, Option.bind_some, Bool.not_true, Bool.not_false, List.isEmpty_nil, List.nil_append, List.length_nil, List.length_cons, Nat.zero_add, firstN]

theorem find_ok' (k : Nat) (hk : 9223372036854775808 < k) (L : List Int) (m : Bool) (hL : L.length ≤ 9223372036854775807) (rest : List D) : iter k (gatepathref44_compare.b1_1 (Cl ty tab) k (.ov 3 m (L.map (D.int .i64)) :: rest)) [.int .i64 0, .ov 3 m (L.map (D.int .i64))] = some [.int .i64 (firstN L)] := find_ok k hk L m hL rest

theorem zipS_cons {a b : Int} {s t : List Int} : zipS (a :: s) (b :: t) = sgn a b :: zipS s t := rfl

theorem rloop_ok (k : Nat) (hk : 9223372036854775808 < k) (a b : D) (ha : Jd a) (hb : Jd b) (pre : List Int) (hp : pre.length = 7) (la : (a.cell 4).els.length ≤ 1000) (lb : (b.cell 4).els.length ≤ 1000) :
    iter k (gatepathref44_compare.b0 (Cl ty tab) k) [.ov 3 false (pre.map (D.int .i64)), .int .i64 0, .pv (etaCells ks1 a 0), .pv (etaCells ks1 b 0)] = some [.int .i64 (firstN (pre ++ zipS (pathJ a) (pathJ b)))] := by
  obtain ⟨pa, na⟩ := pathJ_map ha
  obtain ⟨pb, nb⟩ := pathJ_map hb
  obtain ⟨La, ea, hLa⟩ := ha.path
  obtain ⟨Lb, eb, hLb⟩ := hb.path
  have hLa' : pathJ a = La := by unfold pathJ; rw [ea, List.map_map]; exact List.map_id _
  have hLb' : pathJ b = Lb := by unfold pathJ; rw [eb, List.map_map]; exact List.map_id _
  rw [hLa', hLb']
  have ga : (etaCells ks1 a 0).getD 4 .undef = .sl 30 (a.cell 4).nb (a.cell 4).els := rfl
  have gb : (etaCells ks1 b 0).getD 4 .undef = .sl 30 (b.cell 4).nb (b.cell 4).els := rfl
  have e1 : etaList ks1 (etaCells ks1 a 0) 0 = etaCells ks1 a 0 := etaList_eta ..
  have e2 : etaList ks1 (etaCells ks1 b 0) 0 = etaCells ks1 b 0 := etaList_eta ..
  have lLa : La.length = (a.cell 4).els.length := by rw [ea]; simp
  have lLb : Lb.length = (b.cell 4).els.length := by rw [eb]; simp
  have := iter_wf (F := gatepathref44_compare.b0 (Cl ty tab) k) (σ := List Int × Nat) (fun q => [.ov 3 false (q.1.map (D.int .i64)), .int .i64 q.2, .pv (etaCells ks1 a 0), .pv (etaCells ks1 b 0)])
    (fun q => some [.int .i64 (firstN (q.1 ++ zipS (La.drop q.2) (Lb.drop q.2)))]) (fun q => La.length - q.2) (fun q => q.2 ≤ La.length ∧ q.2 ≤ Lb.length ∧ q.1.length = 7 + q.2) (fun q hq again hag => ?_) k (pre, 0) ⟨by omega, by omega, by simpa using hp⟩ (by simp only; omega)
  · exact this
  · obtain ⟨l, i⟩ := q
    obtain ⟨q1, q2, q3⟩ := hq
    simp only at q1 q2 q3 hag ⊢
    unfold gatepathref44_compare.b0
    by_cases hi : i < La.length
    · by_cases hj : i < Lb.length
      · rw [List.drop_eq_getElem_cons hi, List.drop_eq_getElem_cons hj, zipS_cons]
        have hnext := hag (l ++ [sgn La[i] Lb[i]], i + 1) ⟨by simp only; omega, by simp only; omega, by simp only [List.length_append, List.length_cons, List.length_nil]; omega⟩ (by simp only; omega)
        have h3 := hLa _ (List.getElem_mem hi)
        have h4 := hLb _ (List.getElem_mem hj)
        have w1 := wrap_u32i h3
        have w2 := wrap_u32i h4
        simp only [List.map_append, List.map_cons, List.map_nil, List.append_assoc, List.cons_append, List.nil_append] at hnext
        clear hag pa pb na nb ha hb hLa hLb h3 h4
        simp (disch := omega) only [decide_true, decide_false, if_true, if_false, Bool.false_eq_true, Bool.true_eq_false, eq_self, Bool.true_or, Bool.false_or, Bool.true_and, Bool.false_and, Bool.or_true, Bool.or_false, Bool.and_true, Bool.and_false, List.getD_cons_zero, List.getD_cons_succ, cell_int, cell_bool, cell_str, cell_sl, cell_agg, i_int, b_bool, s_str, nb_sl, els_sl, nb_ov, els_ov, cs_pv, cs_agg, Int.toNat_natCast, toNat_sub1, toNat_add1, List.length_map, getD_map, ct, cf, beqd, bned, cp, cn, cnp, cnn, if_pos, if_neg, wrap64, Option.bind_some, Bool.not_true, Bool.not_false, List.isEmpty_nil, List.nil_append, List.length_nil, List.length_cons, Nat.zero_add, ga, gb, ea, eb, e1, e2, w1, w2, rsign_ok, Int.natCast_add, Int.natCast_one] at hnext ⊢
        exact hnext
      · have e : Lb.drop i = [] := List.drop_eq_nil_of_le (by omega)
        have ez : zipS (La.drop i) [] = [] := by cases La.drop i <;> rfl
        rw [e, ez, List.append_nil]
        have hf := find_ok k hk l false (by omega) [.int .i64 i, .pv (etaCells ks1 a 0), .pv (etaCells ks1 b 0)]
        simp (disch := omega) only [decide_true, decide_false, if_true, if_false, Bool.false_eq_true, Bool.true_eq_false, eq_self, Bool.true_or, Bool.false_or, Bool.true_and, Bool.false_and, Bool.or_true, Bool.or_false, Bool.and_true, Bool.and_false, List.getD_cons_zero, List.getD_cons_succ, cell_int, cell_bool, cell_str, cell_sl, cell_agg, i_int, b_bool, s_str, nb_sl, els_sl, nb_ov, els_ov, cs_pv, cs_agg, Int.toNat_natCast, toNat_sub1, toNat_add1, List.length_map, getD_map, ct, cf, beqd, bned, cp, cn, cnp, cnn, if_pos, if_neg, wrap64, Option.bind_some, Bool.not_true, Bool.not_false, List.isEmpty_nil, List.nil_append, List.length_nil, List.length_cons, Nat.zero_add, ga, gb, ea, eb, hf]
    · have e : La.drop i = [] := List.drop_eq_nil_of_le (by omega)
      have ez : zipS [] (Lb.drop i) = [] := by cases Lb.drop i <;> rfl
      rw [e, ez, List.append_nil]
      have hf := find_ok' k hk l false (by omega) [.int .i64 i, .pv (etaCells ks1 a 0), .pv (etaCells ks1 b 0)]
      simp (disch := omega) only [decide_true, decide_false, if_true, if_false, Bool.false_eq_true, Bool.true_eq_false, eq_self, Bool.true_or, Bool.false_or, Bool.true_and, Bool.false_and, Bool.or_true, Bool.or_false, Bool.and_true, Bool.and_false, List.getD_cons_zero, List.getD_cons_succ, cell_int, cell_bool, cell_str, cell_sl, cell_agg, i_int, b_bool, s_str, nb_sl, els_sl, nb_ov, els_ov, cs_pv, cs_agg, Int.toNat_natCast, toNat_sub1, toNat_add1, List.length_map, getD_map, ct, cf, beqd, bned, cp, cn, cnp, cnn, if_pos, if_neg, wrap64, Option.bind_some, Bool.not_true, Bool.not_false, List.isEmpty_nil, List.nil_append, List.length_nil, List.length_cons, Nat.zero_add, ga, gb, ea, eb, hf]

theorem rightJ_near {d : D} (h : rightJ d = true) : nearF (d.cell 5).i = true ∧ (d.cell 4).els.length ≤ 30 ∧ prefC d = 0 ∧ knownJ d = true := by
  unfold rightJ routeF at h
  simp only [Bool.and_eq_true, decide_eq_true_eq] at h
  obtain ⟨h1, h2⟩ := h
  split at h1
  · rename_i h3
    exact absurd h1 h3
  · rename_i h3
    split at h1
    · cases h1
    · split at h1
      · rename_i h5
        exact ⟨h5, by omega, by simpa using h3, h2⟩
      · cases h1

theorem rcompare_ok (a b : D) (ha : Jd a) (hb : Jd b) (ra : rightJ a = true) (rb : rightJ b = true) : Cl ty tab 25 [a, b] = some [.int .i64 (cmpJ a b)] := by
  obtain ⟨k, hk⟩ := rounds
  have := s_gatepathref44_compare k a b (r := [.int .i64 (cmpJ a b)]) ?_
  · rwa [ha.eta, hb.eta] at this
  obtain ⟨n1, n2, _, _⟩ := rightJ_near ra
  obtain ⟨n3, n4, _, _⟩ := rightJ_near rb
  have w1 := wrap_u32i ha.loc; have w2 := wrap_u32i hb.loc; have w3 := wrap_u32i ha.med; have w4 := wrap_u32i hb.med; have w5 := wrap_u32i ha.rou; have w6 := wrap_u32i hb.rou
  have hl := rloop_ok k hk a b ha hb [sgn (bads a) (bads b), sgn (b.cell 6).i (a.cell 6).i, sgn (vals b) (vals a), sgn ((a.cell 4).els.length : Nat) ((b.cell 4).els.length : Nat), sgn (rankJ (a.cell 5).i) (rankJ (b.cell 5).i), sgn (a.cell 7).i (b.cell 7).i, sgn (a.cell 8).i (b.cell 8).i] rfl (by omega) (by omega)
  unfold gatepathref44_compare
  have eb1 : cntF (a.cell 14).i (a.cell 15).i (a.cell 16).i 2 = bads a := rfl
  have eb2 : cntF (b.cell 14).i (b.cell 15).i (b.cell 16).i 2 = bads b := rfl
  have eb3 : cntF (a.cell 14).i (a.cell 15).i (a.cell 16).i 1 = vals a := rfl
  have eb4 : cntF (b.cell 14).i (b.cell 15).i (b.cell 16).i 1 = vals b := rfl
  simp only [List.map_cons, List.map_nil] at hl
  simp (disch := omega) only [decide_true, decide_false, if_true, if_false, Bool.false_eq_true, Bool.true_eq_false, eq_self, Bool.true_or, Bool.false_or, Bool.true_and, Bool.false_and, Bool.or_true, Bool.or_false, Bool.and_true, Bool.and_false, List.getD_cons_zero, List.getD_cons_succ, cell_int, cell_bool, cell_str, cell_sl, cell_agg, i_int, b_bool, s_str, nb_sl, els_sl, nb_ov, els_ov, cs_pv, cs_agg, Int.toNat_natCast, toNat_sub1, toNat_add1, List.length_map, getD_map, ct, cf, beqd, bned, cp, cn, cnp, cnn, if_pos, if_neg, wrap64, Option.bind_some, Bool.not_true, Bool.not_false, List.isEmpty_nil, List.nil_append, List.length_nil, List.length_cons, Nat.zero_add, rcount_ok, eb1, eb2, eb3, eb4, w1, w2, w3, w4, w5, w6, rsign_ok, rrank_ok _ n1, rrank_ok _ n3, hl]
  have la := (pathJ_map ha).2
  have lb := (pathJ_map hb).2
  congr 2
  rw [firstN_append]
  unfold cmpJ
  by_cases hlen : (a.cell 4).els.length = (b.cell 4).els.length
  · rw [firstN_zip _ _ (by omega)]
    simp only [firstN]
    unfold orE
    by_cases g1 : sgn (bads a) (bads b) = 0 <;> by_cases g2 : sgn (b.cell 6).i (a.cell 6).i = 0 <;> by_cases g3 : sgn (vals b) (vals a) = 0 <;> by_cases g5 : sgn (rankJ (a.cell 5).i) (rankJ (b.cell 5).i) = 0 <;> by_cases g6 : sgn (a.cell 7).i (b.cell 7).i = 0 <;> by_cases g7 : sgn (a.cell 8).i (b.cell 8).i = 0 <;>
      by_cases g4 : sgn ((a.cell 4).els.length : Nat) ((b.cell 4).els.length : Nat) = 0 <;> simp [g1, g2, g3, g4, g5, g6, g7]
  · have g4 : sgn ((a.cell 4).els.length : Nat) ((b.cell 4).els.length : Nat) ≠ 0 := by
      unfold sgn
      split
      · simp
      · split
        · simp
        · omega
    simp only [firstN]
    unfold orE
    by_cases g1 : sgn (bads a) (bads b) = 0 <;> by_cases g2 : sgn (b.cell 6).i (a.cell 6).i = 0 <;> by_cases g3 : sgn (vals b) (vals a) = 0 <;> simp [g1, g2, g3, g4]

theorem rCompare_ok (a b : D) (ha : Jd a) (hb : Jd b) : Cl ty tab 11 [a, b] = some (compareR a b) := by
  have := s_gatepathref44_Compare 0 a b (r := compareR a b) ?_
  · rwa [ha.eta, hb.eta] at this
  unfold gatepathref44_Compare compareR
  cases h1 : rightJ a
  · simp (disch := omega) only [decide_true, decide_false, if_true, if_false, Bool.false_eq_true, Bool.true_eq_false, eq_self, Bool.true_or, Bool.false_or, Bool.true_and, Bool.false_and, Bool.or_true, Bool.or_false, Bool.and_true, Bool.and_false, List.getD_cons_zero, List.getD_cons_succ, cell_int, cell_bool, cell_str, cell_sl, cell_agg, i_int, b_bool, s_str, nb_sl, els_sl, nb_ov, els_ov, cs_pv, cs_agg, Int.toNat_natCast, toNat_sub1, toNat_add1, List.length_map, getD_map, ct, cf, beqd, bned, cp, cn, cnp, cnn, if_pos, if_neg, wrap64, Option.bind_some, Bool.not_true, Bool.not_false, List.isEmpty_nil, List.nil_append, List.length_nil, List.length_cons, Nat.zero_add, ha.eta, hb.eta, rright_ok a ha, h1, false_and]
  · cases h2 : rightJ b
    · simp (disch := omega) only [decide_true, decide_false, if_true, if_false, Bool.false_eq_true, Bool.true_eq_false, eq_self, Bool.true_or, Bool.false_or, Bool.true_and, Bool.false_and, Bool.or_true, Bool.or_false, Bool.and_true, Bool.and_false, List.getD_cons_zero, List.getD_cons_succ, cell_int, cell_bool, cell_str, cell_sl, cell_agg, i_int, b_bool, s_str, nb_sl, els_sl, nb_ov, els_ov, cs_pv, cs_agg, Int.toNat_natCast, toNat_sub1, toNat_add1, List.length_map, getD_map, ct, cf, beqd, bned, cp, cn, cnp, cnn, if_pos, if_neg, wrap64, Option.bind_some, Bool.not_true, Bool.not_false, List.isEmpty_nil, List.nil_append, List.length_nil, List.length_cons, Nat.zero_add, ha.eta, hb.eta, rright_ok a ha, rright_ok b hb, h1, h2, and_false]
    · simp (disch := omega) only [decide_true, decide_false, if_true, if_false, Bool.false_eq_true, Bool.true_eq_false, eq_self, Bool.true_or, Bool.false_or, Bool.true_and, Bool.false_and, Bool.or_true, Bool.or_false, Bool.and_true, Bool.and_false, List.getD_cons_zero, List.getD_cons_succ, cell_int, cell_bool, cell_str, cell_sl, cell_agg, i_int, b_bool, s_str, nb_sl, els_sl, nb_ov, els_ov, cs_pv, cs_agg, Int.toNat_natCast, toNat_sub1, toNat_add1, List.length_map, getD_map, ct, cf, beqd, bned, cp, cn, cnp, cnn, if_pos, if_neg, wrap64, Option.bind_some, Bool.not_true, Bool.not_false, List.isEmpty_nil, List.nil_append, List.length_nil, List.length_cons, Nat.zero_add, ha.eta, hb.eta, rright_ok a ha, rright_ok b hb, h1, h2, and_self, rcompare_ok a b ha hb h1 h2]

end Go.Proofs.Ytekkbhmlocageaa.Own
