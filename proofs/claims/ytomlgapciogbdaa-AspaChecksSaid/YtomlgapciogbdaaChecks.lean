import Derived.Test.YtomlgapciogbdaaA
import Derived.Test.YtomlgapciogbdaaRAspaChecks
namespace Go.Proofs.Ytomlgapciogbdaa.Own
open Go Go.Proofs.Ytomlgapciogbdaa.GD
set_option linter.unusedVariables false
set_option linter.unusedSimpArgs false

noncomputable def resR (x : Int) (l : List D) : List D := if chkA x l = 0 then [.sl 81 true [], .sl 81 true [], .sl 70 false [.agg [.int .u32 x, .int .u32 x]]] else [.sl 81 true [], .sl 81 true [], .sl 70 true []]

theorem needs_ok (x : Int) (n : Bool) (l : List D) (hx : 0 ≤ x) (h0 : l.length ≤ 80) (hl : 0 ≤ at' l 0) : Cl ty tab 13 [.agg [.int .u32 x, .sl 22 n l]] = some [.agg (resR x l), .int .i64 (chkA x l)] := by
  refine s_aspa_Needs 0 _ _ _ ?_
  unfold aspa_Needs resR
  by_cases h : chkA x l = 0
  · simp (disch := omega) only [decide_true, decide_false, if_true, if_false, Bool.false_eq_true, Bool.true_eq_false, eq_self, Bool.true_or, Bool.false_or, Bool.true_and, Bool.false_and, Bool.or_true, Bool.or_false, Bool.and_true, Bool.and_false, List.getD_cons_zero, List.getD_cons_succ, cell_int, cell_bool, cell_str, cell_sl, cell_agg, i_int, b_bool, s_str, nb_sl, els_sl, nb_ov, els_ov, cs_pv, cs_agg, Int.toNat_natCast, toNat_sub1, toNat_add1, List.length_map, getD_map, ct, cf, beqd, bned, cp, cn, cnp, cnn, if_pos, if_neg, wrap64, Option.bind_some, Bool.not_true, Bool.not_false, List.isEmpty_nil, List.nil_append, List.length_nil, List.length_cons, Nat.zero_add, check_ok x n l hx h0 hl, h, ne_eq, not_true_eq_false]
  · simp (disch := omega) only [decide_true, decide_false, if_true, if_false, Bool.false_eq_true, Bool.true_eq_false, eq_self, Bool.true_or, Bool.false_or, Bool.true_and, Bool.false_and, Bool.or_true, Bool.or_false, Bool.and_true, Bool.and_false, List.getD_cons_zero, List.getD_cons_succ, cell_int, cell_bool, cell_str, cell_sl, cell_agg, i_int, b_bool, s_str, nb_sl, els_sl, nb_ov, els_ov, cs_pv, cs_agg, Int.toNat_natCast, toNat_sub1, toNat_add1, List.length_map, getD_map, ct, cf, beqd, bned, cp, cn, cnp, cnn, if_pos, if_neg, wrap64, Option.bind_some, Bool.not_true, Bool.not_false, List.isEmpty_nil, List.nil_append, List.length_nil, List.length_cons, Nat.zero_add, check_ok x n l hx h0 hl, h, ne_eq, not_false_eq_true]

theorem rneeds_ok (x : Int) (n : Bool) (l : List D) (h0 : l.length ≤ 80) : Cl ty tab 14 [.agg [.int .u32 x, .sl 22 n l]] = some [.agg (resR x l), .int .i64 (chkA x l)] := by
  refine s_gatepathref15_Needs 0 _ _ _ ?_
  unfold gatepathref15_Needs resR
  by_cases h : chkA x l = 0
  · simp (disch := omega) only [decide_true, decide_false, if_true, if_false, Bool.false_eq_true, Bool.true_eq_false, eq_self, Bool.true_or, Bool.false_or, Bool.true_and, Bool.false_and, Bool.or_true, Bool.or_false, Bool.and_true, Bool.and_false, List.getD_cons_zero, List.getD_cons_succ, cell_int, cell_bool, cell_str, cell_sl, cell_agg, i_int, b_bool, s_str, nb_sl, els_sl, nb_ov, els_ov, cs_pv, cs_agg, Int.toNat_natCast, toNat_sub1, toNat_add1, List.length_map, getD_map, ct, cf, beqd, bned, cp, cn, cnp, cnn, if_pos, if_neg, wrap64, Option.bind_some, Bool.not_true, Bool.not_false, List.isEmpty_nil, List.nil_append, List.length_nil, List.length_cons, Nat.zero_add, rcheck_ok x n l h0, h, ne_eq, not_true_eq_false]
  · simp (disch := omega) only [decide_true, decide_false, if_true, if_false, Bool.false_eq_true, Bool.true_eq_false, eq_self, Bool.true_or, Bool.false_or, Bool.true_and, Bool.false_and, Bool.or_true, Bool.or_false, Bool.and_true, Bool.and_false, List.getD_cons_zero, List.getD_cons_succ, cell_int, cell_bool, cell_str, cell_sl, cell_agg, i_int, b_bool, s_str, nb_sl, els_sl, nb_ov, els_ov, cs_pv, cs_agg, Int.toNat_natCast, toNat_sub1, toNat_add1, List.length_map, getD_map, ct, cf, beqd, bned, cp, cn, cnp, cnn, if_pos, if_neg, wrap64, Option.bind_some, Bool.not_true, Bool.not_false, List.isEmpty_nil, List.nil_append, List.length_nil, List.length_cons, Nat.zero_add, rcheck_ok x n l h0, h, ne_eq, not_false_eq_true]

/-! lists of numbers that are alike -/
def eqN (l m : List D) (i : Nat) : Prop := ∀ j, i ≤ j → j < l.length → at' l j = at' m j
open Classical in
noncomputable def eqB (l m : List D) (i : Nat) : Bool := if eqN l m i then true else false

theorem eqB_fin (l m : List D) : eqB l m l.length = true := by unfold eqB; rw [if_pos]; exact fun j a b => by omega
theorem eqB_no {l m : List D} {i : Nat} (hi : i < l.length) (h : at' l i ≠ at' m i) : eqB l m i = false := by
  unfold eqB; rw [if_neg]; exact fun e => h (e i (Nat.le_refl _) hi)
theorem eqB_step {l m : List D} {i : Nat} (h : at' l i = at' m i) : eqB l m i = eqB l m (i + 1) := by
  have : eqN l m i ↔ eqN l m (i + 1) := by
    constructor
    · intro e j a b; exact e j (by omega) b
    · intro e j a b
      rcases Nat.lt_or_ge i j with c | c
      · exact e j c b
      · have : j = i := by omega
        subst this; exact h
  unfold eqB
  rw [this]
theorem eqB_self (l : List D) : eqB l l 0 = true := by unfold eqB; rw [if_pos]; exact fun j a b => rfl

theorem eloop_ok (k : Nat) (hk : 9223372036854775808 < k) (l m : List D) (hl : l.length ≤ 80) (hm : l.length = m.length) : iter k (slices_Equal.b0 (Cl ty tab) k l m) [.int .i64 0] = some [.bool (eqB l m 0)] := by
  have := iter_ix (F := slices_Equal.b0 (Cl ty tab) k l m) l.length (fun i => [.int .i64 i]) (fun i => some [.bool (eqB l m i)]) (fun i hi again ha => ?_) (fun again => ?_) k (by omega) 0 (by omega)
  · exact this
  · unfold slices_Equal.b0
    have e1 : ∀ (l : List D) j, ((l.getD j .undef).cell 0).i = at' l j := fun l j => rfl
    by_cases h : at' l i = at' m i
    · rw [eqB_step h]
      simp (disch := omega) only [decide_true, decide_false, if_true, if_false, Bool.false_eq_true, Bool.true_eq_false, eq_self, Bool.true_or, Bool.false_or, Bool.true_and, Bool.false_and, Bool.or_true, Bool.or_false, Bool.and_true, Bool.and_false, List.getD_cons_zero, List.getD_cons_succ, cell_int, cell_bool, cell_str, cell_sl, cell_agg, i_int, b_bool, s_str, nb_sl, els_sl, nb_ov, els_ov, cs_pv, cs_agg, Int.toNat_natCast, toNat_sub1, toNat_add1, List.length_map, getD_map, ct, cf, beqd, bned, cp, cn, cnp, cnn, if_pos, if_neg, wrap64, Option.bind_some, Bool.not_true, Bool.not_false, List.isEmpty_nil, List.nil_append, List.length_nil, List.length_cons, Nat.zero_add, e1, ne_eq, h, not_true_eq_false, Int.natCast_add, Int.natCast_one] at ha ⊢
      exact ha
    · rw [eqB_no hi h]
      clear ha
      simp (disch := omega) only [decide_true, decide_false, if_true, if_false, Bool.false_eq_true, Bool.true_eq_false, eq_self, Bool.true_or, Bool.false_or, Bool.true_and, Bool.false_and, Bool.or_true, Bool.or_false, Bool.and_true, Bool.and_false, List.getD_cons_zero, List.getD_cons_succ, cell_int, cell_bool, cell_str, cell_sl, cell_agg, i_int, b_bool, s_str, nb_sl, els_sl, nb_ov, els_ov, cs_pv, cs_agg, Int.toNat_natCast, toNat_sub1, toNat_add1, List.length_map, getD_map, ct, cf, beqd, bned, cp, cn, cnp, cnn, if_pos, if_neg, wrap64, Option.bind_some, Bool.not_true, Bool.not_false, List.isEmpty_nil, List.nil_append, List.length_nil, List.length_cons, Nat.zero_add, e1, ne_eq, h, not_false_eq_true]
  · unfold slices_Equal.b0
    rw [eqB_fin]
    simp (disch := omega) only [decide_true, decide_false, if_true, if_false, Bool.false_eq_true, Bool.true_eq_false, eq_self, Bool.true_or, Bool.false_or, Bool.true_and, Bool.false_and, Bool.or_true, Bool.or_false, Bool.and_true, Bool.and_false, List.getD_cons_zero, List.getD_cons_succ, cell_int, cell_bool, cell_str, cell_sl, cell_agg, i_int, b_bool, s_str, nb_sl, els_sl, nb_ov, els_ov, cs_pv, cs_agg, Int.toNat_natCast, toNat_sub1, toNat_add1, List.length_map, getD_map, ct, cf, beqd, bned, cp, cn, cnp, cnn, if_pos, if_neg, wrap64, Option.bind_some, Bool.not_true, Bool.not_false, List.isEmpty_nil, List.nil_append, List.length_nil, List.length_cons, Nat.zero_add]

noncomputable def sameB (x : Int) (l : List D) (y : Int) (m : List D) : Bool := decide (x = y) && (decide (l.length = m.length) && eqB l m 0)

theorem equal_ok (n o : Bool) (l m : List D) (hl : l.length ≤ 80) (hm : m.length ≤ 80) : Cl ty tab 35 [.sl 22 n l, .sl 22 o m] = some [.bool (decide (l.length = m.length) && eqB l m 0)] := by
  obtain ⟨k, hk⟩ := rounds
  refine s_slices_Equal k _ _ _ _ ?_
  unfold slices_Equal
  by_cases h : l.length = m.length
  · have h' : (l.length : Int) = (m.length : Int) := by omega
    simp (disch := omega) only [decide_true, decide_false, if_true, if_false, Bool.false_eq_true, Bool.true_eq_false, eq_self, Bool.true_or, Bool.false_or, Bool.true_and, Bool.false_and, Bool.or_true, Bool.or_false, Bool.and_true, Bool.and_false, List.getD_cons_zero, List.getD_cons_succ, cell_int, cell_bool, cell_str, cell_sl, cell_agg, i_int, b_bool, s_str, nb_sl, els_sl, nb_ov, els_ov, cs_pv, cs_agg, Int.toNat_natCast, toNat_sub1, toNat_add1, List.length_map, getD_map, ct, cf, beqd, bned, cp, cn, cnp, cnn, if_pos, if_neg, wrap64, Option.bind_some, Bool.not_true, Bool.not_false, List.isEmpty_nil, List.nil_append, List.length_nil, List.length_cons, Nat.zero_add, ne_eq, h', not_true_eq_false, eloop_ok k hk l m hl h, h]
  · have h' : ¬ (l.length : Int) = (m.length : Int) := by omega
    simp (disch := omega) only [decide_true, decide_false, if_true, if_false, Bool.false_eq_true, Bool.true_eq_false, eq_self, Bool.true_or, Bool.false_or, Bool.true_and, Bool.false_and, Bool.or_true, Bool.or_false, Bool.and_true, Bool.and_false, List.getD_cons_zero, List.getD_cons_succ, cell_int, cell_bool, cell_str, cell_sl, cell_agg, i_int, b_bool, s_str, nb_sl, els_sl, nb_ov, els_ov, cs_pv, cs_agg, Int.toNat_natCast, toNat_sub1, toNat_add1, List.length_map, getD_map, ct, cf, beqd, bned, cp, cn, cnp, cnn, if_pos, if_neg, wrap64, Option.bind_some, Bool.not_true, Bool.not_false, List.isEmpty_nil, List.nil_append, List.length_nil, List.length_cons, Nat.zero_add, ne_eq, h', not_false_eq_true, h]

theorem requal_ok (n o : Bool) (l m : List D) (hl : l.length ≤ 80) (hm : m.length ≤ 80) : Cl ty tab 36 [.sl 22 n l, .sl 22 o m] = some [.bool (decide (l.length = m.length) && eqB l m 0)] := by
  obtain ⟨k, hk⟩ := rounds
  refine s_gatepathref15_SameNumbers k _ _ _ _ ?_
  unfold gatepathref15_SameNumbers
  by_cases h : l.length = m.length
  · have h' : (l.length : Int) = (m.length : Int) := by omega
    have lp : iter k (gatepathref15_SameNumbers.b0 (Cl ty tab) k l m) [.int .i64 0] = some [.bool (eqB l m 0)] := eloop_ok k hk l m hl h
    simp (disch := omega) only [decide_true, decide_false, if_true, if_false, Bool.false_eq_true, Bool.true_eq_false, eq_self, Bool.true_or, Bool.false_or, Bool.true_and, Bool.false_and, Bool.or_true, Bool.or_false, Bool.and_true, Bool.and_false, List.getD_cons_zero, List.getD_cons_succ, cell_int, cell_bool, cell_str, cell_sl, cell_agg, i_int, b_bool, s_str, nb_sl, els_sl, nb_ov, els_ov, cs_pv, cs_agg, Int.toNat_natCast, toNat_sub1, toNat_add1, List.length_map, getD_map, ct, cf, beqd, bned, cp, cn, cnp, cnn, if_pos, if_neg, wrap64, Option.bind_some, Bool.not_true, Bool.not_false, List.isEmpty_nil, List.nil_append, List.length_nil, List.length_cons, Nat.zero_add, ne_eq, h', not_true_eq_false, lp, h]
  · have h' : ¬ (l.length : Int) = (m.length : Int) := by omega
    simp (disch := omega) only [decide_true, decide_false, if_true, if_false, Bool.false_eq_true, Bool.true_eq_false, eq_self, Bool.true_or, Bool.false_or, Bool.true_and, Bool.false_and, Bool.or_true, Bool.or_false, Bool.and_true, Bool.and_false, List.getD_cons_zero, List.getD_cons_succ, cell_int, cell_bool, cell_str, cell_sl, cell_agg, i_int, b_bool, s_str, nb_sl, els_sl, nb_ov, els_ov, cs_pv, cs_agg, Int.toNat_natCast, toNat_sub1, toNat_add1, List.length_map, getD_map, ct, cf, beqd, bned, cp, cn, cnp, cnn, if_pos, if_neg, wrap64, Option.bind_some, Bool.not_true, Bool.not_false, List.isEmpty_nil, List.nil_append, List.length_nil, List.length_cons, Nat.zero_add, ne_eq, h', not_false_eq_true, h]

theorem same_ok (x y : Int) (n o : Bool) (l m : List D) (hl : l.length ≤ 80) (hm : m.length ≤ 80) : Cl ty tab 17 [.agg [.int .u32 x, .sl 22 n l], .agg [.int .u32 y, .sl 22 o m]] = some [.bool (sameB x l y m)] := by
  refine s_aspa_Same 0 _ _ _ _ _ _ ?_
  unfold aspa_Same sameB
  by_cases h : x = y
  · simp (disch := omega) only [decide_true, decide_false, if_true, if_false, Bool.false_eq_true, Bool.true_eq_false, eq_self, Bool.true_or, Bool.false_or, Bool.true_and, Bool.false_and, Bool.or_true, Bool.or_false, Bool.and_true, Bool.and_false, List.getD_cons_zero, List.getD_cons_succ, cell_int, cell_bool, cell_str, cell_sl, cell_agg, i_int, b_bool, s_str, nb_sl, els_sl, nb_ov, els_ov, cs_pv, cs_agg, Int.toNat_natCast, toNat_sub1, toNat_add1, List.length_map, getD_map, ct, cf, beqd, bned, cp, cn, cnp, cnn, if_pos, if_neg, wrap64, Option.bind_some, Bool.not_true, Bool.not_false, List.isEmpty_nil, List.nil_append, List.length_nil, List.length_cons, Nat.zero_add, h, equal_ok n o l m hl hm]
  · simp (disch := omega) only [decide_true, decide_false, if_true, if_false, Bool.false_eq_true, Bool.true_eq_false, eq_self, Bool.true_or, Bool.false_or, Bool.true_and, Bool.false_and, Bool.or_true, Bool.or_false, Bool.and_true, Bool.and_false, List.getD_cons_zero, List.getD_cons_succ, cell_int, cell_bool, cell_str, cell_sl, cell_agg, i_int, b_bool, s_str, nb_sl, els_sl, nb_ov, els_ov, cs_pv, cs_agg, Int.toNat_natCast, toNat_sub1, toNat_add1, List.length_map, getD_map, ct, cf, beqd, bned, cp, cn, cnp, cnn, if_pos, if_neg, wrap64, Option.bind_some, Bool.not_true, Bool.not_false, List.isEmpty_nil, List.nil_append, List.length_nil, List.length_cons, Nat.zero_add, h]

theorem rsame_ok (x y : Int) (n o : Bool) (l m : List D) (hl : l.length ≤ 80) (hm : m.length ≤ 80) : Cl ty tab 18 [.agg [.int .u32 x, .sl 22 n l], .agg [.int .u32 y, .sl 22 o m]] = some [.bool (sameB x l y m)] := by
  refine s_gatepathref15_Same 0 _ _ _ _ _ _ ?_
  unfold gatepathref15_Same sameB
  by_cases h : x = y
  · simp (disch := omega) only [decide_true, decide_false, if_true, if_false, Bool.false_eq_true, Bool.true_eq_false, eq_self, Bool.true_or, Bool.false_or, Bool.true_and, Bool.false_and, Bool.or_true, Bool.or_false, Bool.and_true, Bool.and_false, List.getD_cons_zero, List.getD_cons_succ, cell_int, cell_bool, cell_str, cell_sl, cell_agg, i_int, b_bool, s_str, nb_sl, els_sl, nb_ov, els_ov, cs_pv, cs_agg, Int.toNat_natCast, toNat_sub1, toNat_add1, List.length_map, getD_map, ct, cf, beqd, bned, cp, cn, cnp, cnn, if_pos, if_neg, wrap64, Option.bind_some, Bool.not_true, Bool.not_false, List.isEmpty_nil, List.nil_append, List.length_nil, List.length_cons, Nat.zero_add, h, requal_ok n o l m hl hm]
  · simp (disch := omega) only [decide_true, decide_false, if_true, if_false, Bool.false_eq_true, Bool.true_eq_false, eq_self, Bool.true_or, Bool.false_or, Bool.true_and, Bool.false_and, Bool.or_true, Bool.or_false, Bool.and_true, Bool.and_false, List.getD_cons_zero, List.getD_cons_succ, cell_int, cell_bool, cell_str, cell_sl, cell_agg, i_int, b_bool, s_str, nb_sl, els_sl, nb_ov, els_ov, cs_pv, cs_agg, Int.toNat_natCast, toNat_sub1, toNat_add1, List.length_map, getD_map, ct, cf, beqd, bned, cp, cn, cnp, cnn, if_pos, if_neg, wrap64, Option.bind_some, Bool.not_true, Bool.not_false, List.isEmpty_nil, List.nil_append, List.length_nil, List.length_cons, Nat.zero_add, h]

theorem sameB_self (x : Int) (l : List D) : sameB x l x l = true := by
  unfold sameB
  rw [eqB_self]
  simp

/-! resources compared with themselves -/
def wd (d : D) : D := .agg [.int .u64 0, .int .u64 (IntKind.u64.wrap (d.cell 0).i), .int .u64 0, .int .u64 (IntKind.u64.wrap (d.cell 1).i)]

theorem wide_ok (n : Bool) (l : List D) (hl : l.length ≤ 10) : Cl ty tab 56 [.sl 70 n l] = some [.ov 81 (l.map wd).isEmpty (l.map wd)] := by
  obtain ⟨k, hk⟩ := rounds
  refine s_gatepathref03_wide k _ _ ?_
  unfold gatepathref03_wide
  have := iter_ix (F := gatepathref03_wide.b0 (Cl ty tab) k l) l.length (fun i => [.ov 81 ((l.take i).map wd).isEmpty ((l.take i).map wd), .int .i64 i]) (fun i => some [.ov 81 (l.map wd).isEmpty (l.map wd)]) (fun i hi again ha => ?_) (fun again => ?_) k (by omega) 0 (by omega)
  · exact this
  · unfold gatepathref03_wide.b0
    have em : ((l.take i).map wd ++ [wd l[i]]).isEmpty = false := by simp
    rw [List.take_add_one, List.getElem?_eq_getElem hi, Option.toList_some, List.map_append] at ha
    simp only [List.map_cons, List.map_nil, em] at ha
    unfold wd at ha ⊢
    have hlen : (l.take i).length ≤ 10 := by rw [List.length_take]; omega
    clear em
    simp (disch := omega) only [decide_true, decide_false, if_true, if_false, Bool.false_eq_true, Bool.true_eq_false, eq_self, Bool.true_or, Bool.false_or, Bool.true_and, Bool.false_and, Bool.or_true, Bool.or_false, Bool.and_true, Bool.and_false, List.getD_cons_zero, List.getD_cons_succ, cell_int, cell_bool, cell_str, cell_sl, cell_agg, i_int, b_bool, s_str, nb_sl, els_sl, nb_ov, els_ov, cs_pv, cs_agg, Int.toNat_natCast, toNat_sub1, toNat_add1, List.length_map, getD_map, ct, cf, beqd, bned, cp, cn, cnp, cnn, if_pos, if_neg, wrap64, Option.bind_some, Bool.not_true, Bool.not_false, List.isEmpty_nil, List.nil_append, List.length_nil, List.length_cons, Nat.zero_add, getD_get, Int.natCast_add, Int.natCast_one] at ha ⊢
    exact ha
  · unfold gatepathref03_wide.b0
    simp (disch := omega) only [decide_true, decide_false, if_true, if_false, Bool.false_eq_true, Bool.true_eq_false, eq_self, Bool.true_or, Bool.false_or, Bool.true_and, Bool.false_and, Bool.or_true, Bool.or_false, Bool.and_true, Bool.and_false, List.getD_cons_zero, List.getD_cons_succ, cell_int, cell_bool, cell_str, cell_sl, cell_agg, i_int, b_bool, s_str, nb_sl, els_sl, nb_ov, els_ov, cs_pv, cs_agg, Int.toNat_natCast, toNat_sub1, toNat_add1, List.length_map, getD_map, ct, cf, beqd, bned, cp, cn, cnp, cnn, if_pos, if_neg, wrap64, Option.bind_some, Bool.not_true, Bool.not_false, List.isEmpty_nil, List.nil_append, List.length_nil, List.length_cons, Nat.zero_add, List.take_length]

theorem sloop_ok (k : Nat) (hk : 9223372036854775808 < k) (q : D) (L : List D) (h3 : L.length = 3) (hr : ∀ i, ((L.getD i .undef).cell 0).els.length ≤ 10) :
    iter k (gatepathref03_Same.b0 (Cl ty tab) k [.ov 28 false L, q] [.ov 28 false L, q]) [.int .i64 0, .ov 28 false L, .ov 28 false L] = some [.bool true] := by
  have := iter_ix (F := gatepathref03_Same.b0 (Cl ty tab) k [.ov 28 false L, q] [.ov 28 false L, q]) 3 (fun i => [.int .i64 i, .ov 28 false L, .ov 28 false L]) (fun _ => some [.bool true]) (fun i hi again ha => ?_) (fun again => ?_) k (by omega) 0 (by omega)
  · exact this
  · unfold gatepathref03_Same.b0
    have hri := hr i
    simp (disch := omega) only [decide_true, decide_false, if_true, if_false, Bool.false_eq_true, Bool.true_eq_false, eq_self, Bool.true_or, Bool.false_or, Bool.true_and, Bool.false_and, Bool.or_true, Bool.or_false, Bool.and_true, Bool.and_false, List.getD_cons_zero, List.getD_cons_succ, cell_int, cell_bool, cell_str, cell_sl, cell_agg, i_int, b_bool, s_str, nb_sl, els_sl, nb_ov, els_ov, cs_pv, cs_agg, Int.toNat_natCast, toNat_sub1, toNat_add1, List.length_map, getD_map, ct, cf, beqd, bned, cp, cn, cnp, cnn, if_pos, if_neg, wrap64, Option.bind_some, Bool.not_true, Bool.not_false, List.isEmpty_nil, List.nil_append, List.length_nil, List.length_cons, Nat.zero_add, ne_eq, not_true_eq_false, h3]
    have := iter_ix (F := gatepathref03_Same.b1 (Cl ty tab) k again [.ov 28 false L, q] [.ov 28 false L, q] [.int .i64 i, .ov 28 false L, .ov 28 false L]) ((L.getD i .undef).cell 0).els.length (fun j => [.int .i64 j, .ov 28 false L, .ov 28 false L]) (fun _ => some [.bool true]) (fun j hj again2 ha2 => ?_) (fun again2 => ?_) k (by omega) 0 (by omega)
    · exact this
    · unfold gatepathref03_Same.b1
      clear ha hr
      simp (disch := omega) only [decide_true, decide_false, if_true, if_false, Bool.false_eq_true, Bool.true_eq_false, eq_self, Bool.true_or, Bool.false_or, Bool.true_and, Bool.false_and, Bool.or_true, Bool.or_false, Bool.and_true, Bool.and_false, List.getD_cons_zero, List.getD_cons_succ, cell_int, cell_bool, cell_str, cell_sl, cell_agg, i_int, b_bool, s_str, nb_sl, els_sl, nb_ov, els_ov, cs_pv, cs_agg, Int.toNat_natCast, toNat_sub1, toNat_add1, List.length_map, getD_map, ct, cf, beqd, bned, cp, cn, cnp, cnn, if_pos, if_neg, wrap64, Option.bind_some, Bool.not_true, Bool.not_false, List.isEmpty_nil, List.nil_append, List.length_nil, List.length_cons, Nat.zero_add, h3, Int.natCast_add, Int.natCast_one] at ha2 ⊢
      exact ha2
    · unfold gatepathref03_Same.b1
      clear hr
      simp (disch := omega) only [decide_true, decide_false, if_true, if_false, Bool.false_eq_true, Bool.true_eq_false, eq_self, Bool.true_or, Bool.false_or, Bool.true_and, Bool.false_and, Bool.or_true, Bool.or_false, Bool.and_true, Bool.and_false, List.getD_cons_zero, List.getD_cons_succ, cell_int, cell_bool, cell_str, cell_sl, cell_agg, i_int, b_bool, s_str, nb_sl, els_sl, nb_ov, els_ov, cs_pv, cs_agg, Int.toNat_natCast, toNat_sub1, toNat_add1, List.length_map, getD_map, ct, cf, beqd, bned, cp, cn, cnp, cnn, if_pos, if_neg, wrap64, Option.bind_some, Bool.not_true, Bool.not_false, List.isEmpty_nil, List.nil_append, List.length_nil, List.length_cons, Nat.zero_add, h3, Int.natCast_add, Int.natCast_one] at ha ⊢
      exact ha
  · unfold gatepathref03_Same.b0
    simp (disch := omega) only [decide_true, decide_false, if_true, if_false, Bool.false_eq_true, Bool.true_eq_false, eq_self, Bool.true_or, Bool.false_or, Bool.true_and, Bool.false_and, Bool.or_true, Bool.or_false, Bool.and_true, Bool.and_false, List.getD_cons_zero, List.getD_cons_succ, cell_int, cell_bool, cell_str, cell_sl, cell_agg, i_int, b_bool, s_str, nb_sl, els_sl, nb_ov, els_ov, cs_pv, cs_agg, Int.toNat_natCast, toNat_sub1, toNat_add1, List.length_map, getD_map, ct, cf, beqd, bned, cp, cn, cnp, cnn, if_pos, if_neg, wrap64, Option.bind_some, Bool.not_true, Bool.not_false, List.isEmpty_nil, List.nil_append, List.length_nil, List.length_cons, Nat.zero_add]

theorem same03_ok (n : Bool) (l : List D) (hl : l.length ≤ 1) : Cl ty tab 19 [.agg [.sl 81 true [], .sl 81 true [], .sl 70 n l], .agg [.sl 81 true [], .sl 81 true [], .sl 70 n l]] = some [.bool true] := by
  obtain ⟨k, hk⟩ := rounds
  have w := wide_ok n l (by omega)
  have e : Cl ty tab 37 [.agg [.sl 81 true [], .sl 81 true [], .sl 70 n l]] = some [.ov 28 false [.sl 81 true [], .sl 81 true [], .sl 81 (l.map wd).isEmpty (l.map wd)], .ov 5 false [.int .u8 4, .int .u8 6, .int .u8 4]] := by
    refine s_gatepathref03_lists 0 _ _ _ _ _ _ ?_
    unfold gatepathref03_lists
    simp (disch := omega) only [decide_true, decide_false, if_true, if_false, Bool.false_eq_true, Bool.true_eq_false, eq_self, Bool.true_or, Bool.false_or, Bool.true_and, Bool.false_and, Bool.or_true, Bool.or_false, Bool.and_true, Bool.and_false, List.getD_cons_zero, List.getD_cons_succ, cell_int, cell_bool, cell_str, cell_sl, cell_agg, i_int, b_bool, s_str, nb_sl, els_sl, nb_ov, els_ov, cs_pv, cs_agg, Int.toNat_natCast, toNat_sub1, toNat_add1, List.length_map, getD_map, ct, cf, beqd, bned, cp, cn, cnp, cnn, if_pos, if_neg, wrap64, Option.bind_some, Bool.not_true, Bool.not_false, List.isEmpty_nil, List.nil_append, List.length_nil, List.length_cons, Nat.zero_add, w]
  refine s_gatepathref03_Same k _ _ _ _ _ _ _ _ _ _ _ _ ?_
  unfold gatepathref03_Same
  have lp := sloop_ok k hk (.ov 5 false [.int .u8 4, .int .u8 6, .int .u8 4]) [.sl 81 true [], .sl 81 true [], .sl 81 (l.map wd).isEmpty (l.map wd)] rfl (fun i => by
    match i with
    | 0 => show ([] : List D).length ≤ 10; simp
    | 1 => show ([] : List D).length ≤ 10; simp
    | 2 => show (l.map wd).length ≤ 10; rw [List.length_map]; omega
    | i + 3 => show ([] : List D).length ≤ 10; simp)
  simp (disch := omega) only [decide_true, decide_false, if_true, if_false, Bool.false_eq_true, Bool.true_eq_false, eq_self, Bool.true_or, Bool.false_or, Bool.true_and, Bool.false_and, Bool.or_true, Bool.or_false, Bool.and_true, Bool.and_false, List.getD_cons_zero, List.getD_cons_succ, cell_int, cell_bool, cell_str, cell_sl, cell_agg, i_int, b_bool, s_str, nb_sl, els_sl, nb_ov, els_ov, cs_pv, cs_agg, Int.toNat_natCast, toNat_sub1, toNat_add1, List.length_map, getD_map, ct, cf, beqd, bned, cp, cn, cnp, cnn, if_pos, if_neg, wrap64, Option.bind_some, Bool.not_true, Bool.not_false, List.isEmpty_nil, List.nil_append, List.length_nil, List.length_cons, Nat.zero_add, e]
  exact lp

theorem aspaChecks_cl (x y : Int) (n o : Bool) (l m : List D) (hx : 0 ≤ x) (hl : 0 ≤ at' l 0) : Cl ty tab 3 [.agg [.int .u32 x, .sl 22 n l], .agg [.int .u32 y, .sl 22 o m]] = some [.bool true] := by
  refine s_gatepathlaw15_AspaChecks 0 _ _ _ _ _ _ ?_
  unfold gatepathlaw15_AspaChecks
  by_cases h1 : 80 < l.length
  · simp (disch := omega) only [decide_true, decide_false, if_true, if_false, Bool.false_eq_true, Bool.true_eq_false, eq_self, Bool.true_or, Bool.false_or, Bool.true_and, Bool.false_and, Bool.or_true, Bool.or_false, Bool.and_true, Bool.and_false, List.getD_cons_zero, List.getD_cons_succ, cell_int, cell_bool, cell_str, cell_sl, cell_agg, i_int, b_bool, s_str, nb_sl, els_sl, nb_ov, els_ov, cs_pv, cs_agg, Int.toNat_natCast, toNat_sub1, toNat_add1, List.length_map, getD_map, ct, cf, beqd, bned, cp, cn, cnp, cnn, if_pos, if_neg, wrap64, Option.bind_some, Bool.not_true, Bool.not_false, List.isEmpty_nil, List.nil_append, List.length_nil, List.length_cons, Nat.zero_add, great_ok, h1]
  by_cases h2 : 80 < m.length
  · simp (disch := omega) only [decide_true, decide_false, if_true, if_false, Bool.false_eq_true, Bool.true_eq_false, eq_self, Bool.true_or, Bool.false_or, Bool.true_and, Bool.false_and, Bool.or_true, Bool.or_false, Bool.and_true, Bool.and_false, List.getD_cons_zero, List.getD_cons_succ, cell_int, cell_bool, cell_str, cell_sl, cell_agg, i_int, b_bool, s_str, nb_sl, els_sl, nb_ov, els_ov, cs_pv, cs_agg, Int.toNat_natCast, toNat_sub1, toNat_add1, List.length_map, getD_map, ct, cf, beqd, bned, cp, cn, cnp, cnn, if_pos, if_neg, wrap64, Option.bind_some, Bool.not_true, Bool.not_false, List.isEmpty_nil, List.nil_append, List.length_nil, List.length_cons, Nat.zero_add, great_ok, h1, h2]
  have q1 : l.length ≤ 80 := by omega
  have q2 : m.length ≤ 80 := by omega
  have s1 : Cl ty tab 17 [.agg [.int .u32 x, .sl 22 n l], .agg [.int .u32 x, .sl 22 false l]] = some [.bool true] := by rw [same_ok x x n false l l q1 q1, sameB_self]
  have s2 : Cl ty tab 18 [.agg [.int .u32 x, .sl 22 n l], .agg [.int .u32 x, .sl 22 false l]] = some [.bool true] := by rw [rsame_ok x x n false l l q1 q1, sameB_self]
  have res : ∃ (b : Bool) (w : List D), resR x l = [.sl 81 true [], .sl 81 true [], .sl 70 b w] ∧ w.length ≤ 1 := by
    unfold resR
    split
    · exact ⟨_, _, rfl, by simp⟩
    · exact ⟨_, _, rfl, by simp⟩
  obtain ⟨b, w, e, hw⟩ := res
  have m1 := needs_ok x n l hx q1 hl
  have m2 := rneeds_ok x n l q1
  rw [e] at m1 m2
  have s3 := same03_ok b w hw
  simp (disch := omega) only [decide_true, decide_false, if_true, if_false, Bool.false_eq_true, Bool.true_eq_false, eq_self, Bool.true_or, Bool.false_or, Bool.true_and, Bool.false_and, Bool.or_true, Bool.or_false, Bool.and_true, Bool.and_false, List.getD_cons_zero, List.getD_cons_succ, cell_int, cell_bool, cell_str, cell_sl, cell_agg, i_int, b_bool, s_str, nb_sl, els_sl, nb_ov, els_ov, cs_pv, cs_agg, Int.toNat_natCast, toNat_sub1, toNat_add1, List.length_map, getD_map, ct, cf, beqd, bned, cp, cn, cnp, cnn, if_pos, if_neg, wrap64, Option.bind_some, Bool.not_true, Bool.not_false, List.isEmpty_nil, List.nil_append, List.length_nil, List.length_cons, Nat.zero_add, great_ok, h1, h2, twin_ok x n l q1, m1, m2, check_ok x n l hx q1 hl, rcheck_ok x n l q1, same_ok x y n o l m q1 q2, rsame_ok x y n o l m q1 q2, beq_self_eq_true, s1, s2, s3]

theorem aspaChecks_law : LawTrue ty tab 3 [⟨true, [.int .u32, .sl 22]⟩, ⟨true, [.int .u32, .sl 22]⟩] := by
  refine lawTrue_of fun dd hf hw => ?_
  obtain ⟨d1, dd, rfl, h1, hf⟩ := fitsV_cons hf
  obtain ⟨d2, dd, rfl, h2, hf⟩ := fitsV_cons hf
  obtain rfl := fitsV_nil hf
  have dec : ∀ {d : D}, Vk.fits ⟨true, [.int .u32, .sl 22]⟩ d = true → ∃ x n l, d = .agg [.int .u32 x, .sl 22 n l] := fun h => by
    obtain ⟨cs, rfl, h⟩ := fits_agg h
    obtain ⟨d1, cs, rfl, g1, h⟩ := fitsL_cons h
    obtain ⟨d2, cs, rfl, g2, h⟩ := fitsL_cons h
    obtain rfl := fitsL_nil h
    obtain ⟨x, rfl⟩ := fits_int g1
    obtain ⟨n, l, rfl⟩ := fits_sl g2
    exact ⟨x, n, l, rfl⟩
  obtain ⟨x, n, l, rfl⟩ := dec h1
  obtain ⟨y, o, m, rfl⟩ := dec h2
  have w := (hw _ (List.mem_cons_self ..)).cells
  have wx := (w (.int .u32 x) (by simp)).rng
  have wl := (w (.sl 22 n l) (by simp)).els
  refine aspaChecks_cl x y n o l m wx.1 ?_
  cases l with
  | nil => exact Int.le_refl 0
  | cons d t =>
    have hd := wl.2.2.1 ⟨false, [.int .u32]⟩ (by rfl) d (List.mem_cons_self ..)
    obtain ⟨v, rfl⟩ := fits_int (fits_one hd)
    exact (wl.2.2.2 _ (List.mem_cons_self ..)).rng.1

end Go.Proofs.Ytomlgapciogbdaa.Own
