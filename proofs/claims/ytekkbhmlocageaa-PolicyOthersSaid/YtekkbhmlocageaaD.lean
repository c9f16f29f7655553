import Derived.Test.YtekkbhmlocageaaB
namespace Go.Proofs.Ytekkbhmlocageaa.Own
open Go Go.Proofs.Ytekkbhmlocageaa.GD
set_option linter.unusedVariables false
set_option linter.unusedSimpArgs false

/-- a judged route -/
structure Jd (d : D) : Prop where
  fit : Vk.fits ⟨true, ks0⟩ d = true
  a1 : 0 ≤ (d.cell 1).i ∧ (d.cell 1).i < 18446744073709551616
  a2 : 0 ≤ (d.cell 2).i ∧ (d.cell 2).i < 18446744073709551616
  loc : 0 ≤ (d.cell 6).i ∧ (d.cell 6).i < 4294967296
  med : 0 ≤ (d.cell 7).i ∧ (d.cell 7).i < 4294967296
  rou : 0 ≤ (d.cell 8).i ∧ (d.cell 8).i < 4294967296
  v1 : 0 ≤ (d.cell 14).i
  v2 : 0 ≤ (d.cell 15).i
  v3 : 0 ≤ (d.cell 16).i
  plen : (d.cell 4).els.length ≤ 9223372036854775807
  path : ∃ L : List Int, (d.cell 4).els = L.map (D.int .u32) ∧ ∀ x, x ∈ L → 0 ≤ x ∧ x < 4294967296

theorem Jd.eta {d : D} (h : Jd d) : D.agg (etaCells ks0 d 0) = d := eta_fit h.fit

/-! the relations -/
def idxF : List Int → Int → Nat → Int
  | [], _, _ => -1
  | a :: t, x, i => if x = a then i else idxF t x (i + 1)

theorem index_ok (n : Bool) (L : List Int) (x : Int) (hL : L.length ≤ 1000) : Cl ty tab 45 [.sl 5 n (L.map (D.int .u8)), .int .u8 x] = some [.int .i64 (idxF L x 0)] := by
  obtain ⟨k, hk⟩ := rounds
  refine s_slices_Index k _ _ _ ?_
  unfold slices_Index
  have := iter_ix (F := slices_Index.b0 (Cl ty tab) k (L.map (D.int .u8)) x) L.length (fun i => [.int .i64 i]) (fun i => some [.int .i64 (idxF (L.drop i) x i)]) (fun i hi again ha => ?_) (fun again => ?_) k (by omega) 0 (by omega)
  · exact this
  · unfold slices_Index.b0
    rw [List.drop_eq_getElem_cons hi]
    unfold idxF
    by_cases h : x = L[i]
    · simp (disch := omega) only [decide_true, decide_false, if_true, if_false, Bool.false_eq_true, Bool.true_eq_false, eq_self, Bool.true_or, Bool.false_or, Bool.true_and, Bool.false_and, Bool.or_true, Bool.or_false, Bool.and_true, Bool.and_false, List.getD_cons_zero, List.getD_cons_succ, cell_int, cell_bool, cell_str, cell_sl, cell_agg, i_int, b_bool, s_str, nb_sl, els_sl, nb_ov, els_ov, cs_pv, cs_agg, Int.toNat_natCast, toNat_sub1, toNat_add1, List.length_map, getD_map, ct, cf, beqd, bned, cp, cn, cnp, cnn, if_pos, if_neg, wrap64, Option.bind_some, Bool.not_true, Bool.not_false, List.isEmpty_nil, List.nil_append, List.length_nil, List.length_cons, Nat.zero_add, h]
    · simp (disch := omega) only [decide_true, decide_false, if_true, if_false, Bool.false_eq_true, Bool.true_eq_false, eq_self, Bool.true_or, Bool.false_or, Bool.true_and, Bool.false_and, Bool.or_true, Bool.or_false, Bool.and_true, Bool.and_false, List.getD_cons_zero, List.getD_cons_succ, cell_int, cell_bool, cell_str, cell_sl, cell_agg, i_int, b_bool, s_str, nb_sl, els_sl, nb_ov, els_ov, cs_pv, cs_agg, Int.toNat_natCast, toNat_sub1, toNat_add1, List.length_map, getD_map, ct, cf, beqd, bned, cp, cn, cnp, cnn, if_pos, if_neg, wrap64, Option.bind_some, Bool.not_true, Bool.not_false, List.isEmpty_nil, List.nil_append, List.length_nil, List.length_cons, Nat.zero_add, h, Int.natCast_add, Int.natCast_one] at ha ⊢
      exact ha
  · unfold slices_Index.b0
    rw [List.drop_length]
    simp (disch := omega) only [decide_true, decide_false, if_true, if_false, Bool.false_eq_true, Bool.true_eq_false, eq_self, Bool.true_or, Bool.false_or, Bool.true_and, Bool.false_and, Bool.or_true, Bool.or_false, Bool.and_true, Bool.and_false, List.getD_cons_zero, List.getD_cons_succ, cell_int, cell_bool, cell_str, cell_sl, cell_agg, i_int, b_bool, s_str, nb_sl, els_sl, nb_ov, els_ov, cs_pv, cs_agg, Int.toNat_natCast, toNat_sub1, toNat_add1, List.length_map, getD_map, ct, cf, beqd, bned, cp, cn, cnp, cnn, if_pos, if_neg, wrap64, Option.bind_some, Bool.not_true, Bool.not_false, List.isEmpty_nil, List.nil_append, List.length_nil, List.length_cons, Nat.zero_add, idxF]

def ranksL : List Int := [1, 5, 3, 4, 2]
def rankJ (x : Int) : Int := idxF ranksL x 0
def nearF (x : Int) : Bool := decide (1 ≤ x ∧ x ≤ 5)

theorem ranks_ok : Cl ty tab 46 [] = some [.ov 5 false (ranksL.map (D.int .u8))] := s_policy_ranks 0 rfl

theorem rank_near (x : Int) : (decide (0 ≤ rankJ x)) = nearF x := by
  unfold rankJ nearF ranksL
  simp only [idxF]
  by_cases h1 : x = 1
  · subst h1; rfl
  by_cases h5 : x = 5
  · subst h5; rfl
  by_cases h3 : x = 3
  · subst h3; rfl
  by_cases h4 : x = 4
  · subst h4; rfl
  by_cases h2 : x = 2
  · subst h2; rfl
  have : ¬ (1 ≤ x ∧ x ≤ 5) := by omega
  simp [h1, h2, h3, h4, h5, this]

theorem contains_ok (n : Bool) (x : Int) : Cl ty tab 59 [.sl 5 n (ranksL.map (D.int .u8)), .int .u8 x] = some [.bool (nearF x)] := by
  refine s_slices_Contains 0 _ _ _ ?_
  unfold slices_Contains
  have := index_ok n ranksL x (by decide)
  have e := rank_near x
  unfold rankJ at e
  simp (disch := omega) only [decide_true, decide_false, if_true, if_false, Bool.false_eq_true, Bool.true_eq_false, eq_self, Bool.true_or, Bool.false_or, Bool.true_and, Bool.false_and, Bool.or_true, Bool.or_false, Bool.and_true, Bool.and_false, List.getD_cons_zero, List.getD_cons_succ, cell_int, cell_bool, cell_str, cell_sl, cell_agg, i_int, b_bool, s_str, nb_sl, els_sl, nb_ov, els_ov, cs_pv, cs_agg, Int.toNat_natCast, toNat_sub1, toNat_add1, List.length_map, getD_map, ct, cf, beqd, bned, cp, cn, cnp, cnn, if_pos, if_neg, wrap64, Option.bind_some, Bool.not_true, Bool.not_false, List.isEmpty_nil, List.nil_append, List.length_nil, List.length_cons, Nat.zero_add, this, e]

theorem rnear_ok (x : Int) : Cl ty tab 54 [.int .u8 x] = some [.bool (nearF x)] := by
  refine s_gatepathref44_near 0 _ ?_
  unfold gatepathref44_near nearF
  by_cases h1 : x = 1
  · subst h1; rfl
  by_cases h2 : x = 2
  · subst h2; rfl
  by_cases h3 : x = 3
  · subst h3; rfl
  by_cases h4 : x = 4
  · subst h4; rfl
  have : decide (x = 5) = decide (1 ≤ x ∧ x ≤ 5) := by simp only [decide_eq_decide]; omega
  simp (disch := omega) only [decide_true, decide_false, if_true, if_false, Bool.false_eq_true, Bool.true_eq_false, eq_self, Bool.true_or, Bool.false_or, Bool.true_and, Bool.false_and, Bool.or_true, Bool.or_false, Bool.and_true, Bool.and_false, List.getD_cons_zero, List.getD_cons_succ, cell_int, cell_bool, cell_str, cell_sl, cell_agg, i_int, b_bool, s_str, nb_sl, els_sl, nb_ov, els_ov, cs_pv, cs_agg, Int.toNat_natCast, toNat_sub1, toNat_add1, List.length_map, getD_map, ct, cf, beqd, bned, cp, cn, cnp, cnn, if_pos, if_neg, wrap64, Option.bind_some, Bool.not_true, Bool.not_false, List.isEmpty_nil, List.nil_append, List.length_nil, List.length_cons, Nat.zero_add, h1, h2, h3, h4, this]

/-! is a route right -/
def prefC (d : D) : Int := checkP (d.cell 0).i (d.cell 1).i.toNat (d.cell 2).i.toNat (d.cell 3).i
def routeF (d : D) : Int := if prefC d ≠ 0 then prefC d else if 30 < (d.cell 4).els.length then 4 else if nearF (d.cell 5).i = true then 0 else 2

theorem Jd.in64 {d : D} (h : Jd d) : In64 (d.cell 1).i.toNat (d.cell 2).i.toNat := ⟨by have := h.a1; omega, by have := h.a2; omega⟩

theorem pref_ok (d : D) (h : Jd d) : Cl ty tab 58 [.agg [.int .u8 (d.cell 0).i, .int .u64 (d.cell 1).i, .int .u64 (d.cell 2).i, .int .i64 (d.cell 3).i]] = some [.int .i64 (prefC d)] := by
  have := check_prefix_ok (d.cell 0).i (d.cell 1).i.toNat (d.cell 2).i.toNat (d.cell 3).i h.in64
  unfold P4 at this
  rw [Int.toNat_of_nonneg h.a1.1, Int.toNat_of_nonneg h.a2.1] at this
  exact this

theorem rpref_ok (d : D) (h : Jd d) : Cl ty tab 53 [.agg [.int .u8 (d.cell 0).i, .int .u64 (d.cell 1).i, .int .u64 (d.cell 2).i, .int .i64 (d.cell 3).i]] = some [.int .i64 (prefC d)] := by
  have := rcheck_prefix_ok (d.cell 0).i (d.cell 1).i.toNat (d.cell 2).i.toNat (d.cell 3).i h.in64
  unfold P4 at this
  rw [Int.toNat_of_nonneg h.a1.1, Int.toNat_of_nonneg h.a2.1] at this
  exact this

theorem route_ok (d : D) (h : Jd d) : Cl ty tab 38 [.agg (etaCells ks1 d 0)] = some [.int .i64 (routeF d)] := by
  refine s_policy_route 0 d ?_
  unfold policy_route routeF
  have hp := h.plen
  by_cases h1 : prefC d = 0
  · by_cases h2 : 30 < (d.cell 4).els.length
    · simp (disch := omega) only [decide_true, decide_false, if_true, if_false, Bool.false_eq_true, Bool.true_eq_false, eq_self, Bool.true_or, Bool.false_or, Bool.true_and, Bool.false_and, Bool.or_true, Bool.or_false, Bool.and_true, Bool.and_false, List.getD_cons_zero, List.getD_cons_succ, cell_int, cell_bool, cell_str, cell_sl, cell_agg, i_int, b_bool, s_str, nb_sl, els_sl, nb_ov, els_ov, cs_pv, cs_agg, Int.toNat_natCast, toNat_sub1, toNat_add1, List.length_map, getD_map, ct, cf, beqd, bned, cp, cn, cnp, cnn, if_pos, if_neg, wrap64, Option.bind_some, Bool.not_true, Bool.not_false, List.isEmpty_nil, List.nil_append, List.length_nil, List.length_cons, Nat.zero_add, pref_ok d h, h1, ne_eq, not_true_eq_false]
    · cases h3 : nearF (d.cell 5).i <;> simp (disch := omega) only [decide_true, decide_false, if_true, if_false, Bool.false_eq_true, Bool.true_eq_false, eq_self, Bool.true_or, Bool.false_or, Bool.true_and, Bool.false_and, Bool.or_true, Bool.or_false, Bool.and_true, Bool.and_false, List.getD_cons_zero, List.getD_cons_succ, cell_int, cell_bool, cell_str, cell_sl, cell_agg, i_int, b_bool, s_str, nb_sl, els_sl, nb_ov, els_ov, cs_pv, cs_agg, Int.toNat_natCast, toNat_sub1, toNat_add1, List.length_map, getD_map, ct, cf, beqd, bned, cp, cn, cnp, cnn, if_pos, if_neg, wrap64, Option.bind_some, Bool.not_true, Bool.not_false, List.isEmpty_nil, List.nil_append, List.length_nil, List.length_cons, Nat.zero_add, pref_ok d h, h1, ne_eq, not_true_eq_false, ranks_ok, contains_ok, h3]
  · simp (disch := omega) only [decide_true, decide_false, if_true, if_false, Bool.false_eq_true, Bool.true_eq_false, eq_self, Bool.true_or, Bool.false_or, Bool.true_and, Bool.false_and, Bool.or_true, Bool.or_false, Bool.and_true, Bool.and_false, List.getD_cons_zero, List.getD_cons_succ, cell_int, cell_bool, cell_str, cell_sl, cell_agg, i_int, b_bool, s_str, nb_sl, els_sl, nb_ov, els_ov, cs_pv, cs_agg, Int.toNat_natCast, toNat_sub1, toNat_add1, List.length_map, getD_map, ct, cf, beqd, bned, cp, cn, cnp, cnn, if_pos, if_neg, wrap64, Option.bind_some, Bool.not_true, Bool.not_false, List.isEmpty_nil, List.nil_append, List.length_nil, List.length_cons, Nat.zero_add, pref_ok d h, h1, ne_eq, not_false_eq_true]

theorem rroute_ok (d : D) (h : Jd d) : Cl ty tab 29 [.agg (etaCells ks1 d 0)] = some [.int .i64 (routeF d)] := by
  refine s_gatepathref44_route 0 d ?_
  unfold gatepathref44_route routeF
  have hp := h.plen
  by_cases h1 : prefC d = 0
  · by_cases h2 : 30 < (d.cell 4).els.length
    · simp (disch := omega) only [decide_true, decide_false, if_true, if_false, Bool.false_eq_true, Bool.true_eq_false, eq_self, Bool.true_or, Bool.false_or, Bool.true_and, Bool.false_and, Bool.or_true, Bool.or_false, Bool.and_true, Bool.and_false, List.getD_cons_zero, List.getD_cons_succ, cell_int, cell_bool, cell_str, cell_sl, cell_agg, i_int, b_bool, s_str, nb_sl, els_sl, nb_ov, els_ov, cs_pv, cs_agg, Int.toNat_natCast, toNat_sub1, toNat_add1, List.length_map, getD_map, ct, cf, beqd, bned, cp, cn, cnp, cnn, if_pos, if_neg, wrap64, Option.bind_some, Bool.not_true, Bool.not_false, List.isEmpty_nil, List.nil_append, List.length_nil, List.length_cons, Nat.zero_add, rpref_ok d h, h1, ne_eq, not_true_eq_false]
    · cases h3 : nearF (d.cell 5).i <;> simp (disch := omega) only [decide_true, decide_false, if_true, if_false, Bool.false_eq_true, Bool.true_eq_false, eq_self, Bool.true_or, Bool.false_or, Bool.true_and, Bool.false_and, Bool.or_true, Bool.or_false, Bool.and_true, Bool.and_false, List.getD_cons_zero, List.getD_cons_succ, cell_int, cell_bool, cell_str, cell_sl, cell_agg, i_int, b_bool, s_str, nb_sl, els_sl, nb_ov, els_ov, cs_pv, cs_agg, Int.toNat_natCast, toNat_sub1, toNat_add1, List.length_map, getD_map, ct, cf, beqd, bned, cp, cn, cnp, cnn, if_pos, if_neg, wrap64, Option.bind_some, Bool.not_true, Bool.not_false, List.isEmpty_nil, List.nil_append, List.length_nil, List.length_cons, Nat.zero_add, rpref_ok d h, h1, ne_eq, not_true_eq_false, rnear_ok, h3]
  · simp (disch := omega) only [decide_true, decide_false, if_true, if_false, Bool.false_eq_true, Bool.true_eq_false, eq_self, Bool.true_or, Bool.false_or, Bool.true_and, Bool.false_and, Bool.or_true, Bool.or_false, Bool.and_true, Bool.and_false, List.getD_cons_zero, List.getD_cons_succ, cell_int, cell_bool, cell_str, cell_sl, cell_agg, i_int, b_bool, s_str, nb_sl, els_sl, nb_ov, els_ov, cs_pv, cs_agg, Int.toNat_natCast, toNat_sub1, toNat_add1, List.length_map, getD_map, ct, cf, beqd, bned, cp, cn, cnp, cnn, if_pos, if_neg, wrap64, Option.bind_some, Bool.not_true, Bool.not_false, List.isEmpty_nil, List.nil_append, List.length_nil, List.length_cons, Nat.zero_add, rpref_ok d h, h1, ne_eq, not_false_eq_true]

def knownJ (d : D) : Bool := knownF (d.cell 14).i (d.cell 15).i (d.cell 16).i
def rightJ (d : D) : Bool := decide (routeF d = 0) && knownJ d

theorem right_ok (d : D) (h : Jd d) : Cl ty tab 23 [d] = some [.bool (rightJ d)] := by
  have := s_policy_right 0 d (r := [.bool (rightJ d)]) ?_
  · rwa [h.eta] at this
  unfold policy_right rightJ
  by_cases h1 : routeF d = 0 <;> simp (disch := omega) only [decide_true, decide_false, if_true, if_false, Bool.false_eq_true, Bool.true_eq_false, eq_self, Bool.true_or, Bool.false_or, Bool.true_and, Bool.false_and, Bool.or_true, Bool.or_false, Bool.and_true, Bool.and_false, List.getD_cons_zero, List.getD_cons_succ, cell_int, cell_bool, cell_str, cell_sl, cell_agg, i_int, b_bool, s_str, nb_sl, els_sl, nb_ov, els_ov, cs_pv, cs_agg, Int.toNat_natCast, toNat_sub1, toNat_add1, List.length_map, getD_map, ct, cf, beqd, bned, cp, cn, cnp, cnn, if_pos, if_neg, wrap64, Option.bind_some, Bool.not_true, Bool.not_false, List.isEmpty_nil, List.nil_append, List.length_nil, List.length_cons, Nat.zero_add, route_ok d h, h1, known_ok _ _ _ h.v1 h.v2 h.v3] <;> rfl

theorem rright_ok (d : D) (h : Jd d) : Cl ty tab 13 [d] = some [.bool (rightJ d)] := by
  have := s_gatepathref44_Right 0 d (r := [.bool (rightJ d)]) ?_
  · rwa [h.eta] at this
  unfold gatepathref44_Right rightJ
  by_cases h1 : routeF d = 0 <;> simp (disch := omega) only [decide_true, decide_false, if_true, if_false, Bool.false_eq_true, Bool.true_eq_false, eq_self, Bool.true_or, Bool.false_or, Bool.true_and, Bool.false_and, Bool.or_true, Bool.or_false, Bool.and_true, Bool.and_false, List.getD_cons_zero, List.getD_cons_succ, cell_int, cell_bool, cell_str, cell_sl, cell_agg, i_int, b_bool, s_str, nb_sl, els_sl, nb_ov, els_ov, cs_pv, cs_agg, Int.toNat_natCast, toNat_sub1, toNat_add1, List.length_map, getD_map, ct, cf, beqd, bned, cp, cn, cnp, cnn, if_pos, if_neg, wrap64, Option.bind_some, Bool.not_true, Bool.not_false, List.isEmpty_nil, List.nil_append, List.length_nil, List.length_cons, Nat.zero_add, rroute_ok d h, h1, rverdict_ok] <;> rfl

/-! which one is preferred -/
def sgn (a b : Int) : Int := if a < b then -1 else if b < a then 1 else 0
def orE (x y : Int) : Int := if x ≠ 0 then x else y
def pathC : List Int → List Int → Int
  | [], [] => 0
  | [], _ :: _ => -1
  | _ :: _, [] => 1
  | a :: s, b :: t => orE (sgn a b) (pathC s t)

def bads (d : D) : Int := cntF (d.cell 14).i (d.cell 15).i (d.cell 16).i 2
def vals (d : D) : Int := cntF (d.cell 14).i (d.cell 15).i (d.cell 16).i 1
def pathJ (d : D) : List Int := (d.cell 4).els.map D.i

def cmpJ (a b : D) : Int :=
  orE (sgn (bads a) (bads b)) (orE (sgn (b.cell 6).i (a.cell 6).i) (orE (sgn (vals b) (vals a)) (orE (sgn (a.cell 4).els.length (b.cell 4).els.length)
    (orE (sgn (rankJ (a.cell 5).i) (rankJ (b.cell 5).i)) (orE (sgn (a.cell 7).i (b.cell 7).i) (orE (sgn (a.cell 8).i (b.cell 8).i) (pathC (pathJ a) (pathJ b))))))))

theorem nan60_ok (x : Int) : Cl ty tab 71 [.int .i64 x] = some [.bool false] := by
  refine s_cmp_isNaN_71 0 _ ?_
  unfold cmp_isNaN_71
  simp (disch := omega) only [decide_true, decide_false, if_true, if_false, Bool.false_eq_true, Bool.true_eq_false, eq_self, Bool.true_or, Bool.false_or, Bool.true_and, Bool.false_and, Bool.or_true, Bool.or_false, Bool.and_true, Bool.and_false, List.getD_cons_zero, List.getD_cons_succ, cell_int, cell_bool, cell_str, cell_sl, cell_agg, i_int, b_bool, s_str, nb_sl, els_sl, nb_ov, els_ov, cs_pv, cs_agg, Int.toNat_natCast, toNat_sub1, toNat_add1, List.length_map, getD_map, ct, cf, beqd, bned, cp, cn, cnp, cnn, if_pos, if_neg, wrap64, Option.bind_some, Bool.not_true, Bool.not_false, List.isEmpty_nil, List.nil_append, List.length_nil, List.length_cons, Nat.zero_add, ne_eq, not_true_eq_false]
theorem nan72_ok (x : Int) : Cl ty tab 75 [.int .u32 x] = some [.bool false] := by
  refine s_cmp_isNaN_75 0 _ ?_
  unfold cmp_isNaN_75
  simp (disch := omega) only [decide_true, decide_false, if_true, if_false, Bool.false_eq_true, Bool.true_eq_false, eq_self, Bool.true_or, Bool.false_or, Bool.true_and, Bool.false_and, Bool.or_true, Bool.or_false, Bool.and_true, Bool.and_false, List.getD_cons_zero, List.getD_cons_succ, cell_int, cell_bool, cell_str, cell_sl, cell_agg, i_int, b_bool, s_str, nb_sl, els_sl, nb_ov, els_ov, cs_pv, cs_agg, Int.toNat_natCast, toNat_sub1, toNat_add1, List.length_map, getD_map, ct, cf, beqd, bned, cp, cn, cnp, cnn, if_pos, if_neg, wrap64, Option.bind_some, Bool.not_true, Bool.not_false, List.isEmpty_nil, List.nil_append, List.length_nil, List.length_cons, Nat.zero_add, ne_eq, not_true_eq_false]

theorem cmp_ok (a b : Int) : Cl ty tab 60 [.int .i64 a, .int .i64 b] = some [.int .i64 (sgn a b)] := by
  refine s_cmp_Compare_60 0 _ _ ?_
  unfold cmp_Compare_60 sgn
  by_cases h1 : a < b
  · simp (disch := omega) only [decide_true, decide_false, if_true, if_false, Bool.false_eq_true, Bool.true_eq_false, eq_self, Bool.true_or, Bool.false_or, Bool.true_and, Bool.false_and, Bool.or_true, Bool.or_false, Bool.and_true, Bool.and_false, List.getD_cons_zero, List.getD_cons_succ, cell_int, cell_bool, cell_str, cell_sl, cell_agg, i_int, b_bool, s_str, nb_sl, els_sl, nb_ov, els_ov, cs_pv, cs_agg, Int.toNat_natCast, toNat_sub1, toNat_add1, List.length_map, getD_map, ct, cf, beqd, bned, cp, cn, cnp, cnn, if_pos, if_neg, wrap64, Option.bind_some, Bool.not_true, Bool.not_false, List.isEmpty_nil, List.nil_append, List.length_nil, List.length_cons, Nat.zero_add, nan60_ok, h1]
  · by_cases h2 : b < a <;> simp (disch := omega) only [decide_true, decide_false, if_true, if_false, Bool.false_eq_true, Bool.true_eq_false, eq_self, Bool.true_or, Bool.false_or, Bool.true_and, Bool.false_and, Bool.or_true, Bool.or_false, Bool.and_true, Bool.and_false, List.getD_cons_zero, List.getD_cons_succ, cell_int, cell_bool, cell_str, cell_sl, cell_agg, i_int, b_bool, s_str, nb_sl, els_sl, nb_ov, els_ov, cs_pv, cs_agg, Int.toNat_natCast, toNat_sub1, toNat_add1, List.length_map, getD_map, ct, cf, beqd, bned, cp, cn, cnp, cnn, if_pos, if_neg, wrap64, Option.bind_some, Bool.not_true, Bool.not_false, List.isEmpty_nil, List.nil_append, List.length_nil, List.length_cons, Nat.zero_add, nan60_ok, h1, h2]

theorem cmp32_ok (a b : Int) : Cl ty tab 72 [.int .u32 a, .int .u32 b] = some [.int .i64 (sgn a b)] := by
  refine s_cmp_Compare_72 0 _ _ ?_
  unfold cmp_Compare_72 sgn
  by_cases h1 : a < b
  · simp (disch := omega) only [decide_true, decide_false, if_true, if_false, Bool.false_eq_true, Bool.true_eq_false, eq_self, Bool.true_or, Bool.false_or, Bool.true_and, Bool.false_and, Bool.or_true, Bool.or_false, Bool.and_true, Bool.and_false, List.getD_cons_zero, List.getD_cons_succ, cell_int, cell_bool, cell_str, cell_sl, cell_agg, i_int, b_bool, s_str, nb_sl, els_sl, nb_ov, els_ov, cs_pv, cs_agg, Int.toNat_natCast, toNat_sub1, toNat_add1, List.length_map, getD_map, ct, cf, beqd, bned, cp, cn, cnp, cnn, if_pos, if_neg, wrap64, Option.bind_some, Bool.not_true, Bool.not_false, List.isEmpty_nil, List.nil_append, List.length_nil, List.length_cons, Nat.zero_add, nan72_ok, h1]
  · by_cases h2 : b < a <;> simp (disch := omega) only [decide_true, decide_false, if_true, if_false, Bool.false_eq_true, Bool.true_eq_false, eq_self, Bool.true_or, Bool.false_or, Bool.true_and, Bool.false_and, Bool.or_true, Bool.or_false, Bool.and_true, Bool.and_false, List.getD_cons_zero, List.getD_cons_succ, cell_int, cell_bool, cell_str, cell_sl, cell_agg, i_int, b_bool, s_str, nb_sl, els_sl, nb_ov, els_ov, cs_pv, cs_agg, Int.toNat_natCast, toNat_sub1, toNat_add1, List.length_map, getD_map, ct, cf, beqd, bned, cp, cn, cnp, cnn, if_pos, if_neg, wrap64, Option.bind_some, Bool.not_true, Bool.not_false, List.isEmpty_nil, List.nil_append, List.length_nil, List.length_cons, Nat.zero_add, nan72_ok, h1, h2]

theorem rsign_ok (a b : Int) : Cl ty tab 49 [.int .i64 a, .int .i64 b] = some [.int .i64 (sgn a b)] := by
  refine s_gatepathref44_sign 0 _ _ ?_
  unfold gatepathref44_sign sgn
  by_cases h1 : a < b
  · simp (disch := omega) only [decide_true, decide_false, if_true, if_false, Bool.false_eq_true, Bool.true_eq_false, eq_self, Bool.true_or, Bool.false_or, Bool.true_and, Bool.false_and, Bool.or_true, Bool.or_false, Bool.and_true, Bool.and_false, List.getD_cons_zero, List.getD_cons_succ, cell_int, cell_bool, cell_str, cell_sl, cell_agg, i_int, b_bool, s_str, nb_sl, els_sl, nb_ov, els_ov, cs_pv, cs_agg, Int.toNat_natCast, toNat_sub1, toNat_add1, List.length_map, getD_map, ct, cf, beqd, bned, cp, cn, cnp, cnn, if_pos, if_neg, wrap64, Option.bind_some, Bool.not_true, Bool.not_false, List.isEmpty_nil, List.nil_append, List.length_nil, List.length_cons, Nat.zero_add, h1]
  · by_cases h2 : b < a <;> simp (disch := omega) only [decide_true, decide_false, if_true, if_false, Bool.false_eq_true, Bool.true_eq_false, eq_self, Bool.true_or, Bool.false_or, Bool.true_and, Bool.false_and, Bool.or_true, Bool.or_false, Bool.and_true, Bool.and_false, List.getD_cons_zero, List.getD_cons_succ, cell_int, cell_bool, cell_str, cell_sl, cell_agg, i_int, b_bool, s_str, nb_sl, els_sl, nb_ov, els_ov, cs_pv, cs_agg, Int.toNat_natCast, toNat_sub1, toNat_add1, List.length_map, getD_map, ct, cf, beqd, bned, cp, cn, cnp, cnn, if_pos, if_neg, wrap64, Option.bind_some, Bool.not_true, Bool.not_false, List.isEmpty_nil, List.nil_append, List.length_nil, List.length_cons, Nat.zero_add, h1, h2]

theorem paths_ok (n m : Bool) (A B : List Int) (hA : A.length ≤ 9223372036854775807) (hB : B.length ≤ 9223372036854775807) : Cl ty tab 61 [.sl 30 n (A.map (D.int .u32)), .sl 30 m (B.map (D.int .u32))] = some [.int .i64 (pathC A B)] := by
  obtain ⟨k, hk⟩ := rounds
  refine s_slices_Compare k _ _ _ _ ?_
  unfold slices_Compare
  have := iter_ix (F := slices_Compare.b0 (Cl ty tab) k (A.map (D.int .u32)) (B.map (D.int .u32))) A.length (fun i => [.int .i64 i]) (fun i => some [.int .i64 (if i ≤ B.length then pathC (A.drop i) (B.drop i) else if i < A.length then 1 else 0)]) (fun i hi again ha => ?_) (fun again => ?_) k (by omega) 0 (by omega)
  · rw [if_pos (show 0 ≤ B.length by omega)] at this
    exact this
  · unfold slices_Compare.b0
    rw [List.drop_eq_getElem_cons hi]
    by_cases h1 : B.length ≤ i
    · have e : B.drop i = [] := List.drop_eq_nil_of_le h1
      rw [e]
      simp (disch := omega) only [decide_true, decide_false, if_true, if_false, Bool.false_eq_true, Bool.true_eq_false, eq_self, Bool.true_or, Bool.false_or, Bool.true_and, Bool.false_and, Bool.or_true, Bool.or_false, Bool.and_true, Bool.and_false, List.getD_cons_zero, List.getD_cons_succ, cell_int, cell_bool, cell_str, cell_sl, cell_agg, i_int, b_bool, s_str, nb_sl, els_sl, nb_ov, els_ov, cs_pv, cs_agg, Int.toNat_natCast, toNat_sub1, toNat_add1, List.length_map, getD_map, ct, cf, beqd, bned, cp, cn, cnp, cnn, if_pos, if_neg, wrap64, Option.bind_some, Bool.not_true, Bool.not_false, List.isEmpty_nil, List.nil_append, List.length_nil, List.length_cons, Nat.zero_add, pathC, ite_self]
    · have h2 : i < B.length := by omega
      rw [List.drop_eq_getElem_cons h2, if_pos (show i ≤ B.length by omega)]
      unfold pathC orE
      rw [if_pos (show i + 1 ≤ B.length by omega)] at ha
      by_cases h3 : sgn A[i] B[i] = 0
      · simp (disch := omega) only [decide_true, decide_false, if_true, if_false, Bool.false_eq_true, Bool.true_eq_false, eq_self, Bool.true_or, Bool.false_or, Bool.true_and, Bool.false_and, Bool.or_true, Bool.or_false, Bool.and_true, Bool.and_false, List.getD_cons_zero, List.getD_cons_succ, cell_int, cell_bool, cell_str, cell_sl, cell_agg, i_int, b_bool, s_str, nb_sl, els_sl, nb_ov, els_ov, cs_pv, cs_agg, Int.toNat_natCast, toNat_sub1, toNat_add1, List.length_map, getD_map, ct, cf, beqd, bned, cp, cn, cnp, cnn, if_pos, if_neg, wrap64, Option.bind_some, Bool.not_true, Bool.not_false, List.isEmpty_nil, List.nil_append, List.length_nil, List.length_cons, Nat.zero_add, cmp32_ok, h3, ne_eq, not_true_eq_false, Int.natCast_add, Int.natCast_one] at ha ⊢
        exact ha
      · simp (disch := omega) only [decide_true, decide_false, if_true, if_false, Bool.false_eq_true, Bool.true_eq_false, eq_self, Bool.true_or, Bool.false_or, Bool.true_and, Bool.false_and, Bool.or_true, Bool.or_false, Bool.and_true, Bool.and_false, List.getD_cons_zero, List.getD_cons_succ, cell_int, cell_bool, cell_str, cell_sl, cell_agg, i_int, b_bool, s_str, nb_sl, els_sl, nb_ov, els_ov, cs_pv, cs_agg, Int.toNat_natCast, toNat_sub1, toNat_add1, List.length_map, getD_map, ct, cf, beqd, bned, cp, cn, cnp, cnn, if_pos, if_neg, wrap64, Option.bind_some, Bool.not_true, Bool.not_false, List.isEmpty_nil, List.nil_append, List.length_nil, List.length_cons, Nat.zero_add, cmp32_ok, h3, ne_eq, not_false_eq_true]
  · unfold slices_Compare.b0
    rw [List.drop_length]
    by_cases h1 : A.length < B.length
    · rw [if_pos (show A.length ≤ B.length by omega), List.drop_eq_getElem_cons h1]
      simp (disch := omega) only [decide_true, decide_false, if_true, if_false, Bool.false_eq_true, Bool.true_eq_false, eq_self, Bool.true_or, Bool.false_or, Bool.true_and, Bool.false_and, Bool.or_true, Bool.or_false, Bool.and_true, Bool.and_false, List.getD_cons_zero, List.getD_cons_succ, cell_int, cell_bool, cell_str, cell_sl, cell_agg, i_int, b_bool, s_str, nb_sl, els_sl, nb_ov, els_ov, cs_pv, cs_agg, Int.toNat_natCast, toNat_sub1, toNat_add1, List.length_map, getD_map, ct, cf, beqd, bned, cp, cn, cnp, cnn, if_pos, if_neg, wrap64, Option.bind_some, Bool.not_true, Bool.not_false, List.isEmpty_nil, List.nil_append, List.length_nil, List.length_cons, Nat.zero_add, pathC]
    · by_cases h2 : A.length ≤ B.length
      · have e : B.drop A.length = [] := List.drop_eq_nil_of_le (by omega)
        rw [if_pos h2, e]
        simp (disch := omega) only [decide_true, decide_false, if_true, if_false, Bool.false_eq_true, Bool.true_eq_false, eq_self, Bool.true_or, Bool.false_or, Bool.true_and, Bool.false_and, Bool.or_true, Bool.or_false, Bool.and_true, Bool.and_false, List.getD_cons_zero, List.getD_cons_succ, cell_int, cell_bool, cell_str, cell_sl, cell_agg, i_int, b_bool, s_str, nb_sl, els_sl, nb_ov, els_ov, cs_pv, cs_agg, Int.toNat_natCast, toNat_sub1, toNat_add1, List.length_map, getD_map, ct, cf, beqd, bned, cp, cn, cnp, cnn, if_pos, if_neg, wrap64, Option.bind_some, Bool.not_true, Bool.not_false, List.isEmpty_nil, List.nil_append, List.length_nil, List.length_cons, Nat.zero_add, pathC]
      · rw [if_neg h2, if_neg (show ¬ A.length < A.length by omega)]
        simp (disch := omega) only [decide_true, decide_false, if_true, if_false, Bool.false_eq_true, Bool.true_eq_false, eq_self, Bool.true_or, Bool.false_or, Bool.true_and, Bool.false_and, Bool.or_true, Bool.or_false, Bool.and_true, Bool.and_false, List.getD_cons_zero, List.getD_cons_succ, cell_int, cell_bool, cell_str, cell_sl, cell_agg, i_int, b_bool, s_str, nb_sl, els_sl, nb_ov, els_ov, cs_pv, cs_agg, Int.toNat_natCast, toNat_sub1, toNat_add1, List.length_map, getD_map, ct, cf, beqd, bned, cp, cn, cnp, cnn, if_pos, if_neg, wrap64, Option.bind_some, Bool.not_true, Bool.not_false, List.isEmpty_nil, List.nil_append, List.length_nil, List.length_cons, Nat.zero_add]

end Go.Proofs.Ytekkbhmlocageaa.Own
