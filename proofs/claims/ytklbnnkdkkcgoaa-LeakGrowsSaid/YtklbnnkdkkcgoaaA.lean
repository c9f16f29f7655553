import Derived.Test.YtklbnnkdkkcgoaaR
namespace Go.Proofs.Ytklbnnkdkkcgoaa.Own
open Go Go.Proofs.Ytklbnnkdkkcgoaa.GD
set_option linter.unusedVariables false
set_option linter.unusedSimpArgs false

noncomputable abbrev cl := Cl ty tab
structure At where
  c : Int
  nb : Bool
  p : List Int
def At.d (a : At) : D := .agg [.int .u32 a.c, .sl 23 a.nb (a.p.map (D.int .u32))]
abbrev big : Nat := 9223372036854775807

def greatF (l : List At) : Bool := decide (310 < l.length) || l.any fun a => decide (60 < a.p.length)

theorem great_ok (n : Bool) (l : List At) (hl : l.length ≤ 9223372036854775807) : Cl ty tab 11 [.sl 46 n (l.map At.d)] = some [.bool (greatF l)] := by
  obtain ⟨k, hk⟩ := rounds
  refine s_gatepathref41_Great k _ _ ?_
  unfold gatepathref41_Great
  by_cases h : 310 < l.length
  · simp (disch := omega) only [decide_true, decide_false, if_true, if_false, Bool.false_eq_true, Bool.true_eq_false, eq_self, Bool.true_or, Bool.false_or, Bool.true_and, Bool.false_and, Bool.or_true, Bool.or_false, Bool.and_true, Bool.and_false, List.getD_cons_zero, List.getD_cons_succ, cell_int, cell_bool, cell_str, cell_sl, cell_agg, i_int, b_bool, s_str, nb_sl, els_sl, nb_ov, els_ov, cs_pv, cs_agg, Int.toNat_natCast, toNat_sub1, toNat_add1, List.length_map, getD_map, ct, cf, beqd, bned, cp, cn, cnp, cnn, if_pos, if_neg, wrap64, Option.bind_some, Bool.not_true, Bool.not_false, List.isEmpty_nil, List.nil_append, List.length_nil, List.length_cons, Nat.zero_add, greatF, dT, Bool.true_or]
  · have := iter_list (F := gatepathref41_Great.b0 (Cl ty tab) k (l.map At.d)) l (fun i => [.int .i64 i]) (fun t => some [.bool (t.any fun a => decide (60 < a.p.length))]) (fun i hi again ha => ?_) (fun again => ?_) k (by omega)
    · simp (disch := omega) only [decide_true, decide_false, if_true, if_false, Bool.false_eq_true, Bool.true_eq_false, eq_self, Bool.true_or, Bool.false_or, Bool.true_and, Bool.false_and, Bool.or_true, Bool.or_false, Bool.and_true, Bool.and_false, List.getD_cons_zero, List.getD_cons_succ, cell_int, cell_bool, cell_str, cell_sl, cell_agg, i_int, b_bool, s_str, nb_sl, els_sl, nb_ov, els_ov, cs_pv, cs_agg, Int.toNat_natCast, toNat_sub1, toNat_add1, List.length_map, getD_map, ct, cf, beqd, bned, cp, cn, cnp, cnn, if_pos, if_neg, wrap64, Option.bind_some, Bool.not_true, Bool.not_false, List.isEmpty_nil, List.nil_append, List.length_nil, List.length_cons, Nat.zero_add, greatF, dF, Bool.false_or]
      exact this
    · unfold gatepathref41_Great.b0
      rw [List.any_cons]
      by_cases h2 : 60 < l[i].p.length
      · simp (disch := omega) only [decide_true, decide_false, if_true, if_false, Bool.false_eq_true, Bool.true_eq_false, eq_self, Bool.true_or, Bool.false_or, Bool.true_and, Bool.false_and, Bool.or_true, Bool.or_false, Bool.and_true, Bool.and_false, List.getD_cons_zero, List.getD_cons_succ, cell_int, cell_bool, cell_str, cell_sl, cell_agg, i_int, b_bool, s_str, nb_sl, els_sl, nb_ov, els_ov, cs_pv, cs_agg, Int.toNat_natCast, toNat_sub1, toNat_add1, List.length_map, getD_map, ct, cf, beqd, bned, cp, cn, cnp, cnn, if_pos, if_neg, wrap64, Option.bind_some, Bool.not_true, Bool.not_false, List.isEmpty_nil, List.nil_append, List.length_nil, List.length_cons, Nat.zero_add, At.d, dT, Bool.true_or]
      · simp (disch := omega) only [decide_true, decide_false, if_true, if_false, Bool.false_eq_true, Bool.true_eq_false, eq_self, Bool.true_or, Bool.false_or, Bool.true_and, Bool.false_and, Bool.or_true, Bool.or_false, Bool.and_true, Bool.and_false, List.getD_cons_zero, List.getD_cons_succ, cell_int, cell_bool, cell_str, cell_sl, cell_agg, i_int, b_bool, s_str, nb_sl, els_sl, nb_ov, els_ov, cs_pv, cs_agg, Int.toNat_natCast, toNat_sub1, toNat_add1, List.length_map, getD_map, ct, cf, beqd, bned, cp, cn, cnp, cnn, if_pos, if_neg, wrap64, Option.bind_some, Bool.not_true, Bool.not_false, List.isEmpty_nil, List.nil_append, List.length_nil, List.length_cons, Nat.zero_add, At.d, dF, Bool.false_or]
        exact ha
    · unfold gatepathref41_Great.b0
      simp (disch := omega) only [decide_true, decide_false, if_true, if_false, Bool.false_eq_true, Bool.true_eq_false, eq_self, Bool.true_or, Bool.false_or, Bool.true_and, Bool.false_and, Bool.or_true, Bool.or_false, Bool.and_true, Bool.and_false, List.getD_cons_zero, List.getD_cons_succ, cell_int, cell_bool, cell_str, cell_sl, cell_agg, i_int, b_bool, s_str, nb_sl, els_sl, nb_ov, els_ov, cs_pv, cs_agg, Int.toNat_natCast, toNat_sub1, toNat_add1, List.length_map, getD_map, ct, cf, beqd, bned, cp, cn, cnp, cnn, if_pos, if_neg, wrap64, Option.bind_some, Bool.not_true, Bool.not_false, List.isEmpty_nil, List.nil_append, List.length_nil, List.length_cons, Nat.zero_add, List.any_nil]

def ixF : List At → Nat → Int
  | [], _ => -1
  | a :: t, i => if 50 < a.p.length then i else ixF t (i + 1)

theorem ixF_any : ∀ (l : List At) (i : Nat), decide (0 ≤ ixF l i) = l.any fun a => decide (50 < a.p.length)
  | [], _ => rfl
  | a :: t, i => by
    unfold ixF
    rw [List.any_cons]
    by_cases h : 50 < a.p.length
    · rw [if_pos h]; simp [h]
    · rw [if_neg h]; simp [h, ixF_any t]

theorem check1_ok (a : At) : Cl ty tab 41 [a.d] = some [.bool (decide (50 < a.p.length))] := by
  refine s_leak_Check_1 0 _ _ _ ?_
  unfold leak_Check_1
  simp (disch := omega) only [decide_true, decide_false, if_true, if_false, Bool.false_eq_true, Bool.true_eq_false, eq_self, Bool.true_or, Bool.false_or, Bool.true_and, Bool.false_and, Bool.or_true, Bool.or_false, Bool.and_true, Bool.and_false, List.getD_cons_zero, List.getD_cons_succ, cell_int, cell_bool, cell_str, cell_sl, cell_agg, i_int, b_bool, s_str, nb_sl, els_sl, nb_ov, els_ov, cs_pv, cs_agg, Int.toNat_natCast, toNat_sub1, toNat_add1, List.length_map, getD_map, ct, cf, beqd, bned, cp, cn, cnp, cnn, if_pos, if_neg, wrap64, Option.bind_some, Bool.not_true, Bool.not_false, List.isEmpty_nil, List.nil_append, List.length_nil, List.length_cons, Nat.zero_add]
  congr 3
  exact decide_eq_decide.2 (by omega)

theorem index_ok (n : Bool) (l : List At) (hl : l.length ≤ 9223372036854775807) : Cl ty tab 56 [.sl 46 n (l.map At.d), .fn 41 []] = some [.int .i64 (ixF l 0)] := by
  obtain ⟨k, hk⟩ := rounds
  refine s_slices_IndexFunc k _ _ ?_
  unfold slices_IndexFunc
  have := iter_ix (F := slices_IndexFunc.b0 (Cl ty tab) k (l.map At.d)) l.length (fun i => [.int .i64 i]) (fun i => some [.int .i64 (ixF (l.drop i) i)]) (fun i hi again ha => ?_) (fun again => ?_) k (by omega) 0 (by omega)
  · simpa using this
  · unfold slices_IndexFunc.b0
    rw [List.drop_eq_getElem_cons hi]
    have h1 := check1_ok l[i]
    unfold ixF
    by_cases h2 : 50 < l[i].p.length
    · simp (disch := omega) only [decide_true, decide_false, if_true, if_false, Bool.false_eq_true, Bool.true_eq_false, eq_self, Bool.true_or, Bool.false_or, Bool.true_and, Bool.false_and, Bool.or_true, Bool.or_false, Bool.and_true, Bool.and_false, List.getD_cons_zero, List.getD_cons_succ, cell_int, cell_bool, cell_str, cell_sl, cell_agg, i_int, b_bool, s_str, nb_sl, els_sl, nb_ov, els_ov, cs_pv, cs_agg, Int.toNat_natCast, toNat_sub1, toNat_add1, List.length_map, getD_map, ct, cf, beqd, bned, cp, cn, cnp, cnn, if_pos, if_neg, wrap64, Option.bind_some, Bool.not_true, Bool.not_false, List.isEmpty_nil, List.nil_append, List.length_nil, List.length_cons, Nat.zero_add, At.d] at h1 ⊢
      simp (disch := omega) only [decide_true, decide_false, if_true, if_false, Bool.false_eq_true, Bool.true_eq_false, eq_self, Bool.true_or, Bool.false_or, Bool.true_and, Bool.false_and, Bool.or_true, Bool.or_false, Bool.and_true, Bool.and_false, List.getD_cons_zero, List.getD_cons_succ, cell_int, cell_bool, cell_str, cell_sl, cell_agg, i_int, b_bool, s_str, nb_sl, els_sl, nb_ov, els_ov, cs_pv, cs_agg, Int.toNat_natCast, toNat_sub1, toNat_add1, List.length_map, getD_map, ct, cf, beqd, bned, cp, cn, cnp, cnn, if_pos, if_neg, wrap64, Option.bind_some, Bool.not_true, Bool.not_false, List.isEmpty_nil, List.nil_append, List.length_nil, List.length_cons, Nat.zero_add, h1, dT]
    · simp (disch := omega) only [decide_true, decide_false, if_true, if_false, Bool.false_eq_true, Bool.true_eq_false, eq_self, Bool.true_or, Bool.false_or, Bool.true_and, Bool.false_and, Bool.or_true, Bool.or_false, Bool.and_true, Bool.and_false, List.getD_cons_zero, List.getD_cons_succ, cell_int, cell_bool, cell_str, cell_sl, cell_agg, i_int, b_bool, s_str, nb_sl, els_sl, nb_ov, els_ov, cs_pv, cs_agg, Int.toNat_natCast, toNat_sub1, toNat_add1, List.length_map, getD_map, ct, cf, beqd, bned, cp, cn, cnp, cnn, if_pos, if_neg, wrap64, Option.bind_some, Bool.not_true, Bool.not_false, List.isEmpty_nil, List.nil_append, List.length_nil, List.length_cons, Nat.zero_add, At.d] at h1 ⊢
      simp (disch := omega) only [decide_true, decide_false, if_true, if_false, Bool.false_eq_true, Bool.true_eq_false, eq_self, Bool.true_or, Bool.false_or, Bool.true_and, Bool.false_and, Bool.or_true, Bool.or_false, Bool.and_true, Bool.and_false, List.getD_cons_zero, List.getD_cons_succ, cell_int, cell_bool, cell_str, cell_sl, cell_agg, i_int, b_bool, s_str, nb_sl, els_sl, nb_ov, els_ov, cs_pv, cs_agg, Int.toNat_natCast, toNat_sub1, toNat_add1, List.length_map, getD_map, ct, cf, beqd, bned, cp, cn, cnp, cnn, if_pos, if_neg, wrap64, Option.bind_some, Bool.not_true, Bool.not_false, List.isEmpty_nil, List.nil_append, List.length_nil, List.length_cons, Nat.zero_add, h1, dF]
      exact ha
  · unfold slices_IndexFunc.b0
    simp (disch := omega) only [decide_true, decide_false, if_true, if_false, Bool.false_eq_true, Bool.true_eq_false, eq_self, Bool.true_or, Bool.false_or, Bool.true_and, Bool.false_and, Bool.or_true, Bool.or_false, Bool.and_true, Bool.and_false, List.getD_cons_zero, List.getD_cons_succ, cell_int, cell_bool, cell_str, cell_sl, cell_agg, i_int, b_bool, s_str, nb_sl, els_sl, nb_ov, els_ov, cs_pv, cs_agg, Int.toNat_natCast, toNat_sub1, toNat_add1, List.length_map, getD_map, ct, cf, beqd, bned, cp, cn, cnp, cnn, if_pos, if_neg, wrap64, Option.bind_some, Bool.not_true, Bool.not_false, List.isEmpty_nil, List.nil_append, List.length_nil, List.length_cons, Nat.zero_add, List.drop_length, ixF]

theorem contains_ok (n : Bool) (l : List At) (hl : l.length ≤ 9223372036854775807) : Cl ty tab 40 [.sl 46 n (l.map At.d), .fn 41 []] = some [.bool (l.any fun a => decide (50 < a.p.length))] := by
  refine s_slices_ContainsFunc 0 _ _ ?_
  unfold slices_ContainsFunc
  rw [index_ok n l hl]
  simp (disch := omega) only [decide_true, decide_false, if_true, if_false, Bool.false_eq_true, Bool.true_eq_false, eq_self, Bool.true_or, Bool.false_or, Bool.true_and, Bool.false_and, Bool.or_true, Bool.or_false, Bool.and_true, Bool.and_false, List.getD_cons_zero, List.getD_cons_succ, cell_int, cell_bool, cell_str, cell_sl, cell_agg, i_int, b_bool, s_str, nb_sl, els_sl, nb_ov, els_ov, cs_pv, cs_agg, Int.toNat_natCast, toNat_sub1, toNat_add1, List.length_map, getD_map, ct, cf, beqd, bned, cp, cn, cnp, cnn, if_pos, if_neg, wrap64, Option.bind_some, Bool.not_true, Bool.not_false, List.isEmpty_nil, List.nil_append, List.length_nil, List.length_cons, Nat.zero_add, ixF_any]

def rise : List Int → Bool
  | a :: b :: t => decide (a < b) && rise (b :: t)
  | _ => true

theorem check2_ok (a : At) : Cl ty tab 43 [a.d] = some [.int .u32 a.c] := s_leak_Check_2 0 _ _ _ rfl
theorem check3_ok (x : Int) : Cl ty tab 45 [.int .u32 x] = some [.int .u32 x] := s_leak_Check_3 0 _ rfl

theorem drop2 {α : Type} {l : List α} {j : Nat} (h : j + 1 < l.length) : l.drop j = l[j] :: l[j + 1] :: l.drop (j + 2) := by
  rw [List.drop_eq_getElem_cons (by omega), List.drop_eq_getElem_cons h]

theorem rise_last {l : List Int} : rise (l.drop (l.length - 1)) = true := by
  cases l with
  | nil => rfl
  | cons a t =>
    have : ((a :: t).drop ((a :: t).length - 1)).length = 1 := by simp
    match h : (a :: t).drop ((a :: t).length - 1), this with
    | [x], _ => rfl

theorem rising42_ok (n : Bool) (l : List At) (hl : l.length ≤ 9223372036854775807) : Cl ty tab 42 [.sl 46 n (l.map At.d), .fn 43 []] = some [.bool (rise (l.map At.c))] := by
  obtain ⟨k, hk⟩ := rounds
  refine s_leak_rising_42 k _ _ ?_
  unfold leak_rising_42
  have := iter_ix (F := leak_rising_42.b0 (Cl ty tab) k (l.map At.d)) (l.length - 1) (fun i => [.int .i64 (i + 1 : Int)]) (fun i => some [.bool (rise ((l.map At.c).drop i))]) (fun i hi again ha => ?_) (fun again => ?_) k (by omega) 0 (by omega)
  · simpa using this
  · unfold leak_rising_42.b0
    have hi2 : i + 1 < l.length := by omega
    have h1 := check2_ok l[i]
    have h2 := check2_ok l[i + 1]
    rw [drop2 (by simpa using hi2)]
    unfold rise
    simp (disch := omega) only [decide_true, decide_false, if_true, if_false, Bool.false_eq_true, Bool.true_eq_false, eq_self, Bool.true_or, Bool.false_or, Bool.true_and, Bool.false_and, Bool.or_true, Bool.or_false, Bool.and_true, Bool.and_false, List.getD_cons_zero, List.getD_cons_succ, cell_int, cell_bool, cell_str, cell_sl, cell_agg, i_int, b_bool, s_str, nb_sl, els_sl, nb_ov, els_ov, cs_pv, cs_agg, Int.toNat_natCast, toNat_sub1, toNat_add1, List.length_map, getD_map, ct, cf, beqd, bned, cp, cn, cnp, cnn, if_pos, if_neg, wrap64, Option.bind_some, Bool.not_true, Bool.not_false, List.isEmpty_nil, List.nil_append, List.length_nil, List.length_cons, Nat.zero_add, At.d, Int.add_sub_cancel] at h1 h2 ⊢
    by_cases h3 : l[i].c < l[i+1].c
    · simp (disch := omega) only [decide_true, decide_false, if_true, if_false, Bool.false_eq_true, Bool.true_eq_false, eq_self, Bool.true_or, Bool.false_or, Bool.true_and, Bool.false_and, Bool.or_true, Bool.or_false, Bool.and_true, Bool.and_false, List.getD_cons_zero, List.getD_cons_succ, cell_int, cell_bool, cell_str, cell_sl, cell_agg, i_int, b_bool, s_str, nb_sl, els_sl, nb_ov, els_ov, cs_pv, cs_agg, Int.toNat_natCast, toNat_sub1, toNat_add1, List.length_map, getD_map, ct, cf, beqd, bned, cp, cn, cnp, cnn, if_pos, if_neg, wrap64, Option.bind_some, Bool.not_true, Bool.not_false, List.isEmpty_nil, List.nil_append, List.length_nil, List.length_cons, Nat.zero_add, h1, h2, List.getElem_map, dT, Bool.true_and]
      have e : (l.map At.c).drop (i + 1) = l[i + 1].c :: (l.map At.c).drop (i + 2) := by rw [List.drop_eq_getElem_cons (by simpa using hi2)]; simp
      rw [e] at ha
      exact ha
    · simp (disch := omega) only [decide_true, decide_false, if_true, if_false, Bool.false_eq_true, Bool.true_eq_false, eq_self, Bool.true_or, Bool.false_or, Bool.true_and, Bool.false_and, Bool.or_true, Bool.or_false, Bool.and_true, Bool.and_false, List.getD_cons_zero, List.getD_cons_succ, cell_int, cell_bool, cell_str, cell_sl, cell_agg, i_int, b_bool, s_str, nb_sl, els_sl, nb_ov, els_ov, cs_pv, cs_agg, Int.toNat_natCast, toNat_sub1, toNat_add1, List.length_map, getD_map, ct, cf, beqd, bned, cp, cn, cnp, cnn, if_pos, if_neg, wrap64, Option.bind_some, Bool.not_true, Bool.not_false, List.isEmpty_nil, List.nil_append, List.length_nil, List.length_cons, Nat.zero_add, h1, h2, List.getElem_map, dF, Bool.false_and]
  · unfold leak_rising_42.b0
    have := rise_last (l := l.map At.c)
    simp (disch := omega) only [decide_true, decide_false, if_true, if_false, Bool.false_eq_true, Bool.true_eq_false, eq_self, Bool.true_or, Bool.false_or, Bool.true_and, Bool.false_and, Bool.or_true, Bool.or_false, Bool.and_true, Bool.and_false, List.getD_cons_zero, List.getD_cons_succ, cell_int, cell_bool, cell_str, cell_sl, cell_agg, i_int, b_bool, s_str, nb_sl, els_sl, nb_ov, els_ov, cs_pv, cs_agg, Int.toNat_natCast, toNat_sub1, toNat_add1, List.length_map, getD_map, ct, cf, beqd, bned, cp, cn, cnp, cnn, if_pos, if_neg, wrap64, Option.bind_some, Bool.not_true, Bool.not_false, List.isEmpty_nil, List.nil_append, List.length_nil, List.length_cons, Nat.zero_add]
    rw [List.length_map] at this
    rw [this]

theorem rising44_ok (n : Bool) (l : List Int) (hl : l.length ≤ 9223372036854775807) : Cl ty tab 44 [.sl 23 n (l.map (D.int .u32)), .fn 45 []] = some [.bool (rise l)] := by
  obtain ⟨k, hk⟩ := rounds
  refine s_leak_rising_44 k _ _ ?_
  unfold leak_rising_44
  have := iter_ix (F := leak_rising_44.b0 (Cl ty tab) k (l.map (D.int .u32))) (l.length - 1) (fun i => [.int .i64 (i + 1 : Int)]) (fun i => some [.bool (rise (l.drop i))]) (fun i hi again ha => ?_) (fun again => ?_) k (by omega) 0 (by omega)
  · simpa using this
  · unfold leak_rising_44.b0
    have hi2 : i + 1 < l.length := by omega
    rw [drop2 hi2]
    unfold rise
    simp (disch := omega) only [decide_true, decide_false, if_true, if_false, Bool.false_eq_true, Bool.true_eq_false, eq_self, Bool.true_or, Bool.false_or, Bool.true_and, Bool.false_and, Bool.or_true, Bool.or_false, Bool.and_true, Bool.and_false, List.getD_cons_zero, List.getD_cons_succ, cell_int, cell_bool, cell_str, cell_sl, cell_agg, i_int, b_bool, s_str, nb_sl, els_sl, nb_ov, els_ov, cs_pv, cs_agg, Int.toNat_natCast, toNat_sub1, toNat_add1, List.length_map, getD_map, ct, cf, beqd, bned, cp, cn, cnp, cnn, if_pos, if_neg, wrap64, Option.bind_some, Bool.not_true, Bool.not_false, List.isEmpty_nil, List.nil_append, List.length_nil, List.length_cons, Nat.zero_add, Int.add_sub_cancel]
    by_cases h3 : l[i] < l[i+1]
    · simp (disch := omega) only [decide_true, decide_false, if_true, if_false, Bool.false_eq_true, Bool.true_eq_false, eq_self, Bool.true_or, Bool.false_or, Bool.true_and, Bool.false_and, Bool.or_true, Bool.or_false, Bool.and_true, Bool.and_false, List.getD_cons_zero, List.getD_cons_succ, cell_int, cell_bool, cell_str, cell_sl, cell_agg, i_int, b_bool, s_str, nb_sl, els_sl, nb_ov, els_ov, cs_pv, cs_agg, Int.toNat_natCast, toNat_sub1, toNat_add1, List.length_map, getD_map, ct, cf, beqd, bned, cp, cn, cnp, cnn, if_pos, if_neg, wrap64, Option.bind_some, Bool.not_true, Bool.not_false, List.isEmpty_nil, List.nil_append, List.length_nil, List.length_cons, Nat.zero_add, check3_ok, dT, Bool.true_and]
      rw [List.drop_eq_getElem_cons hi2] at ha
      exact ha
    · simp (disch := omega) only [decide_true, decide_false, if_true, if_false, Bool.false_eq_true, Bool.true_eq_false, eq_self, Bool.true_or, Bool.false_or, Bool.true_and, Bool.false_and, Bool.or_true, Bool.or_false, Bool.and_true, Bool.and_false, List.getD_cons_zero, List.getD_cons_succ, cell_int, cell_bool, cell_str, cell_sl, cell_agg, i_int, b_bool, s_str, nb_sl, els_sl, nb_ov, els_ov, cs_pv, cs_agg, Int.toNat_natCast, toNat_sub1, toNat_add1, List.length_map, getD_map, ct, cf, beqd, bned, cp, cn, cnp, cnn, if_pos, if_neg, wrap64, Option.bind_some, Bool.not_true, Bool.not_false, List.isEmpty_nil, List.nil_append, List.length_nil, List.length_cons, Nat.zero_add, check3_ok, dF, Bool.false_and]
  · unfold leak_rising_44.b0
    simp (disch := omega) only [decide_true, decide_false, if_true, if_false, Bool.false_eq_true, Bool.true_eq_false, eq_self, Bool.true_or, Bool.false_or, Bool.true_and, Bool.false_and, Bool.or_true, Bool.or_false, Bool.and_true, Bool.and_false, List.getD_cons_zero, List.getD_cons_succ, cell_int, cell_bool, cell_str, cell_sl, cell_agg, i_int, b_bool, s_str, nb_sl, els_sl, nb_ov, els_ov, cs_pv, cs_agg, Int.toNat_natCast, toNat_sub1, toNat_add1, List.length_map, getD_map, ct, cf, beqd, bned, cp, cn, cnp, cnn, if_pos, if_neg, wrap64, Option.bind_some, Bool.not_true, Bool.not_false, List.isEmpty_nil, List.nil_append, List.length_nil, List.length_cons, Nat.zero_add, rise_last (l := l)]

def checkF (l : List At) : Int :=
  if 300 < l.length then 4 else if (l.any fun a => decide (50 < a.p.length)) = true then 4 else if rise (l.map At.c) = false then 8
  else if (l.any fun a => a.p.isEmpty || !rise a.p) = true then 8 else 0

/-- what a list of attestations is -/
structure Fine (l : List At) : Prop where
  len : l.length ≤ 9223372036854775807
  plen : ∀ a, a ∈ l → a.p.length ≤ 9223372036854775807

theorem check_ok (n : Bool) (l : List At) (hl : Fine l) : Cl ty tab 15 [.sl 46 n (l.map At.d)] = some [.int .i64 (checkF l)] := by
  have hl1 := hl.len
  obtain ⟨k, hk⟩ := rounds
  refine s_leak_Check k _ _ ?_
  unfold leak_Check checkF
  by_cases h1 : 300 < l.length
  · simp (disch := omega) only [decide_true, decide_false, if_true, if_false, Bool.false_eq_true, Bool.true_eq_false, eq_self, Bool.true_or, Bool.false_or, Bool.true_and, Bool.false_and, Bool.or_true, Bool.or_false, Bool.and_true, Bool.and_false, List.getD_cons_zero, List.getD_cons_succ, cell_int, cell_bool, cell_str, cell_sl, cell_agg, i_int, b_bool, s_str, nb_sl, els_sl, nb_ov, els_ov, cs_pv, cs_agg, Int.toNat_natCast, toNat_sub1, toNat_add1, List.length_map, getD_map, ct, cf, beqd, bned, cp, cn, cnp, cnn, if_pos, if_neg, wrap64, Option.bind_some, Bool.not_true, Bool.not_false, List.isEmpty_nil, List.nil_append, List.length_nil, List.length_cons, Nat.zero_add]
  simp (disch := omega) only [decide_true, decide_false, if_true, if_false, Bool.false_eq_true, Bool.true_eq_false, eq_self, Bool.true_or, Bool.false_or, Bool.true_and, Bool.false_and, Bool.or_true, Bool.or_false, Bool.and_true, Bool.and_false, List.getD_cons_zero, List.getD_cons_succ, cell_int, cell_bool, cell_str, cell_sl, cell_agg, i_int, b_bool, s_str, nb_sl, els_sl, nb_ov, els_ov, cs_pv, cs_agg, Int.toNat_natCast, toNat_sub1, toNat_add1, List.length_map, getD_map, ct, cf, beqd, bned, cp, cn, cnp, cnn, if_pos, if_neg, wrap64, Option.bind_some, Bool.not_true, Bool.not_false, List.isEmpty_nil, List.nil_append, List.length_nil, List.length_cons, Nat.zero_add, contains_ok n l hl1, rising42_ok n l hl1]
  cases h2 : l.any fun a => decide (50 < a.p.length)
  case true => simp (disch := omega) only [decide_true, decide_false, if_true, if_false, Bool.false_eq_true, Bool.true_eq_false, eq_self, Bool.true_or, Bool.false_or, Bool.true_and, Bool.false_and, Bool.or_true, Bool.or_false, Bool.and_true, Bool.and_false, List.getD_cons_zero, List.getD_cons_succ, cell_int, cell_bool, cell_str, cell_sl, cell_agg, i_int, b_bool, s_str, nb_sl, els_sl, nb_ov, els_ov, cs_pv, cs_agg, Int.toNat_natCast, toNat_sub1, toNat_add1, List.length_map, getD_map, ct, cf, beqd, bned, cp, cn, cnp, cnn, if_pos, if_neg, wrap64, Option.bind_some, Bool.not_true, Bool.not_false, List.isEmpty_nil, List.nil_append, List.length_nil, List.length_cons, Nat.zero_add]
  cases h3 : rise (l.map At.c)
  case false => simp (disch := omega) only [decide_true, decide_false, if_true, if_false, Bool.false_eq_true, Bool.true_eq_false, eq_self, Bool.true_or, Bool.false_or, Bool.true_and, Bool.false_and, Bool.or_true, Bool.or_false, Bool.and_true, Bool.and_false, List.getD_cons_zero, List.getD_cons_succ, cell_int, cell_bool, cell_str, cell_sl, cell_agg, i_int, b_bool, s_str, nb_sl, els_sl, nb_ov, els_ov, cs_pv, cs_agg, Int.toNat_natCast, toNat_sub1, toNat_add1, List.length_map, getD_map, ct, cf, beqd, bned, cp, cn, cnp, cnn, if_pos, if_neg, wrap64, Option.bind_some, Bool.not_true, Bool.not_false, List.isEmpty_nil, List.nil_append, List.length_nil, List.length_cons, Nat.zero_add, Bool.false_eq_true]
  simp (disch := omega) only [decide_true, decide_false, if_true, if_false, Bool.false_eq_true, Bool.true_eq_false, eq_self, Bool.true_or, Bool.false_or, Bool.true_and, Bool.false_and, Bool.or_true, Bool.or_false, Bool.and_true, Bool.and_false, List.getD_cons_zero, List.getD_cons_succ, cell_int, cell_bool, cell_str, cell_sl, cell_agg, i_int, b_bool, s_str, nb_sl, els_sl, nb_ov, els_ov, cs_pv, cs_agg, Int.toNat_natCast, toNat_sub1, toNat_add1, List.length_map, getD_map, ct, cf, beqd, bned, cp, cn, cnp, cnn, if_pos, if_neg, wrap64, Option.bind_some, Bool.not_true, Bool.not_false, List.isEmpty_nil, List.nil_append, List.length_nil, List.length_cons, Nat.zero_add, Bool.false_eq_true, Bool.true_eq_false]
  refine iter_list (F := leak_Check.b0 (Cl ty tab) k (l.map At.d)) l (fun i => [.int .i64 i]) (fun t => some [.int .i64 (if (t.any fun a => a.p.isEmpty || !rise a.p) = true then 8 else 0)]) (fun i hi again ha => ?_) (fun again => ?_) k (by omega)
  · unfold leak_Check.b0
    rw [List.any_cons]
    have hp := hl.plen l[i] (List.getElem_mem hi)
    have hr := rising44_ok l[i].nb l[i].p hp
    simp (disch := omega) only [decide_true, decide_false, if_true, if_false, Bool.false_eq_true, Bool.true_eq_false, eq_self, Bool.true_or, Bool.false_or, Bool.true_and, Bool.false_and, Bool.or_true, Bool.or_false, Bool.and_true, Bool.and_false, List.getD_cons_zero, List.getD_cons_succ, cell_int, cell_bool, cell_str, cell_sl, cell_agg, i_int, b_bool, s_str, nb_sl, els_sl, nb_ov, els_ov, cs_pv, cs_agg, Int.toNat_natCast, toNat_sub1, toNat_add1, List.length_map, getD_map, ct, cf, beqd, bned, cp, cn, cnp, cnn, if_pos, if_neg, wrap64, Option.bind_some, Bool.not_true, Bool.not_false, List.isEmpty_nil, List.nil_append, List.length_nil, List.length_cons, Nat.zero_add, At.d]
    cases h4 : l[i].p with
    | nil => simp (disch := omega) only [decide_true, decide_false, if_true, if_false, Bool.false_eq_true, Bool.true_eq_false, eq_self, Bool.true_or, Bool.false_or, Bool.true_and, Bool.false_and, Bool.or_true, Bool.or_false, Bool.and_true, Bool.and_false, List.getD_cons_zero, List.getD_cons_succ, cell_int, cell_bool, cell_str, cell_sl, cell_agg, i_int, b_bool, s_str, nb_sl, els_sl, nb_ov, els_ov, cs_pv, cs_agg, Int.toNat_natCast, toNat_sub1, toNat_add1, List.length_map, getD_map, ct, cf, beqd, bned, cp, cn, cnp, cnn, if_pos, if_neg, wrap64, Option.bind_some, Bool.not_true, Bool.not_false, List.isEmpty_nil, List.nil_append, List.length_nil, List.length_cons, Nat.zero_add, List.map_nil, List.isEmpty_nil, Bool.true_or]
    | cons x t =>
      rw [h4] at hr
      simp (disch := omega) only [decide_true, decide_false, if_true, if_false, Bool.false_eq_true, Bool.true_eq_false, eq_self, Bool.true_or, Bool.false_or, Bool.true_and, Bool.false_and, Bool.or_true, Bool.or_false, Bool.and_true, Bool.and_false, List.getD_cons_zero, List.getD_cons_succ, cell_int, cell_bool, cell_str, cell_sl, cell_agg, i_int, b_bool, s_str, nb_sl, els_sl, nb_ov, els_ov, cs_pv, cs_agg, Int.toNat_natCast, toNat_sub1, toNat_add1, List.length_map, getD_map, ct, cf, beqd, bned, cp, cn, cnp, cnn, if_pos, if_neg, wrap64, Option.bind_some, Bool.not_true, Bool.not_false, List.isEmpty_nil, List.nil_append, List.length_nil, List.length_cons, Nat.zero_add, hr, List.isEmpty_cons, Bool.false_or]
      cases h5 : rise (x :: t)
      · simp (disch := omega) only [decide_true, decide_false, if_true, if_false, Bool.false_eq_true, Bool.true_eq_false, eq_self, Bool.true_or, Bool.false_or, Bool.true_and, Bool.false_and, Bool.or_true, Bool.or_false, Bool.and_true, Bool.and_false, List.getD_cons_zero, List.getD_cons_succ, cell_int, cell_bool, cell_str, cell_sl, cell_agg, i_int, b_bool, s_str, nb_sl, els_sl, nb_ov, els_ov, cs_pv, cs_agg, Int.toNat_natCast, toNat_sub1, toNat_add1, List.length_map, getD_map, ct, cf, beqd, bned, cp, cn, cnp, cnn, if_pos, if_neg, wrap64, Option.bind_some, Bool.not_true, Bool.not_false, List.isEmpty_nil, List.nil_append, List.length_nil, List.length_cons, Nat.zero_add, Bool.true_or]
      · simp (disch := omega) only [decide_true, decide_false, if_true, if_false, Bool.false_eq_true, Bool.true_eq_false, eq_self, Bool.true_or, Bool.false_or, Bool.true_and, Bool.false_and, Bool.or_true, Bool.or_false, Bool.and_true, Bool.and_false, List.getD_cons_zero, List.getD_cons_succ, cell_int, cell_bool, cell_str, cell_sl, cell_agg, i_int, b_bool, s_str, nb_sl, els_sl, nb_ov, els_ov, cs_pv, cs_agg, Int.toNat_natCast, toNat_sub1, toNat_add1, List.length_map, getD_map, ct, cf, beqd, bned, cp, cn, cnp, cnn, if_pos, if_neg, wrap64, Option.bind_some, Bool.not_true, Bool.not_false, List.isEmpty_nil, List.nil_append, List.length_nil, List.length_cons, Nat.zero_add, Bool.false_or]
        exact ha
  · unfold leak_Check.b0
    simp (disch := omega) only [decide_true, decide_false, if_true, if_false, Bool.false_eq_true, Bool.true_eq_false, eq_self, Bool.true_or, Bool.false_or, Bool.true_and, Bool.false_and, Bool.or_true, Bool.or_false, Bool.and_true, Bool.and_false, List.getD_cons_zero, List.getD_cons_succ, cell_int, cell_bool, cell_str, cell_sl, cell_agg, i_int, b_bool, s_str, nb_sl, els_sl, nb_ov, els_ov, cs_pv, cs_agg, Int.toNat_natCast, toNat_sub1, toNat_add1, List.length_map, getD_map, ct, cf, beqd, bned, cp, cn, cnp, cnn, if_pos, if_neg, wrap64, Option.bind_some, Bool.not_true, Bool.not_false, List.isEmpty_nil, List.nil_append, List.length_nil, List.length_cons, Nat.zero_add, List.any_nil, Bool.false_eq_true]

/-- how many at the begin are smaller -/
def lbF : List Int → Int → Nat
  | [], _ => 0
  | a :: t, x => if a < x then lbF t x + 1 else 0

theorem rise_tail {a : Int} {t : List Int} (h : rise (a :: t) = true) : rise t = true := by
  cases t with
  | nil => rfl
  | cons b t => simp only [rise, Bool.and_eq_true] at h; exact h.2

theorem rise_lt : ∀ {t : List Int} {a : Int}, rise (a :: t) = true → ∀ b, b ∈ t → a < b
  | b :: t, a, h, c, hc => by
    simp only [rise, Bool.and_eq_true, decide_eq_true_eq] at h
    rcases List.mem_cons.1 hc with rfl | hc
    · exact h.1
    · have := rise_lt h.2 c hc; omega

theorem lb_iff {x : Int} : ∀ {ks : List Int}, rise ks = true → ∀ (i : Nat) (hi : i < ks.length), ks[i] < x ↔ i < lbF ks x
  | a :: t, h, i, hi => by
    unfold lbF
    by_cases h1 : a < x
    · rw [if_pos h1]
      cases i with
      | zero => simp [h1]
      | succ i => simpa using lb_iff (rise_tail h) i (by simpa using hi)
    · rw [if_neg h1]
      cases i with
      | zero => simpa using h1
      | succ i =>
        have := rise_lt h _ (List.getElem_mem (show i < t.length by simpa using hi))
        simp only [List.getElem_cons_succ]
        omega

theorem lb_le (x : Int) : ∀ (ks : List Int), lbF ks x ≤ ks.length
  | [] => Nat.le_refl _
  | a :: t => by unfold lbF; have := lb_le x t; split <;> simp <;> omega

/-- found: at the place of the first that is not smaller -/
def atLb (ks : List Int) (x : Int) : Bool := match ks[lbF ks x]? with | some y => decide (y = x) | none => false

theorem nan_ok (x : Int) : Cl ty tab 57 [.int .u32 x] = some [.bool false] := by
  refine s_cmp_isNaN 0 _ ?_
  unfold cmp_isNaN
  simp (disch := omega) only [decide_true, decide_false, if_true, if_false, Bool.false_eq_true, Bool.true_eq_false, eq_self, Bool.true_or, Bool.false_or, Bool.true_and, Bool.false_and, Bool.or_true, Bool.or_false, Bool.and_true, Bool.and_false, List.getD_cons_zero, List.getD_cons_succ, cell_int, cell_bool, cell_str, cell_sl, cell_agg, i_int, b_bool, s_str, nb_sl, els_sl, nb_ov, els_ov, cs_pv, cs_agg, Int.toNat_natCast, toNat_sub1, toNat_add1, List.length_map, getD_map, ct, cf, beqd, bned, cp, cn, cnp, cnn, if_pos, if_neg, wrap64, Option.bind_some, Bool.not_true, Bool.not_false, List.isEmpty_nil, List.nil_append, List.length_nil, List.length_cons, Nat.zero_add, ne_eq, not_true_eq_false, decide_false]

theorem nan2_ok (x : Int) : Cl ty tab 59 [.int .u32 x] = some [.bool false] := by
  refine s_slices_isNaN 0 _ ?_
  unfold slices_isNaN
  simp (disch := omega) only [decide_true, decide_false, if_true, if_false, Bool.false_eq_true, Bool.true_eq_false, eq_self, Bool.true_or, Bool.false_or, Bool.true_and, Bool.false_and, Bool.or_true, Bool.or_false, Bool.and_true, Bool.and_false, List.getD_cons_zero, List.getD_cons_succ, cell_int, cell_bool, cell_str, cell_sl, cell_agg, i_int, b_bool, s_str, nb_sl, els_sl, nb_ov, els_ov, cs_pv, cs_agg, Int.toNat_natCast, toNat_sub1, toNat_add1, List.length_map, getD_map, ct, cf, beqd, bned, cp, cn, cnp, cnn, if_pos, if_neg, wrap64, Option.bind_some, Bool.not_true, Bool.not_false, List.isEmpty_nil, List.nil_append, List.length_nil, List.length_cons, Nat.zero_add, ne_eq, not_true_eq_false, decide_false]

theorem cmp_ok (x y : Int) : Cl ty tab 54 [.int .u32 x, .int .u32 y] = some [.int .i64 (if x < y then -1 else if y < x then 1 else 0)] := by
  refine s_cmp_Compare 0 _ _ ?_
  unfold cmp_Compare
  simp (disch := omega) only [decide_true, decide_false, if_true, if_false, Bool.false_eq_true, Bool.true_eq_false, eq_self, Bool.true_or, Bool.false_or, Bool.true_and, Bool.false_and, Bool.or_true, Bool.or_false, Bool.and_true, Bool.and_false, List.getD_cons_zero, List.getD_cons_succ, cell_int, cell_bool, cell_str, cell_sl, cell_agg, i_int, b_bool, s_str, nb_sl, els_sl, nb_ov, els_ov, cs_pv, cs_agg, Int.toNat_natCast, toNat_sub1, toNat_add1, List.length_map, getD_map, ct, cf, beqd, bned, cp, cn, cnp, cnn, if_pos, if_neg, wrap64, Option.bind_some, Bool.not_true, Bool.not_false, List.isEmpty_nil, List.nil_append, List.length_nil, List.length_cons, Nat.zero_add, nan_ok]
  by_cases h1 : x < y
  · simp (disch := omega) only [decide_true, decide_false, if_true, if_false, Bool.false_eq_true, Bool.true_eq_false, eq_self, Bool.true_or, Bool.false_or, Bool.true_and, Bool.false_and, Bool.or_true, Bool.or_false, Bool.and_true, Bool.and_false, List.getD_cons_zero, List.getD_cons_succ, cell_int, cell_bool, cell_str, cell_sl, cell_agg, i_int, b_bool, s_str, nb_sl, els_sl, nb_ov, els_ov, cs_pv, cs_agg, Int.toNat_natCast, toNat_sub1, toNat_add1, List.length_map, getD_map, ct, cf, beqd, bned, cp, cn, cnp, cnn, if_pos, if_neg, wrap64, Option.bind_some, Bool.not_true, Bool.not_false, List.isEmpty_nil, List.nil_append, List.length_nil, List.length_cons, Nat.zero_add]
  · by_cases h2 : y < x
    · simp (disch := omega) only [decide_true, decide_false, if_true, if_false, Bool.false_eq_true, Bool.true_eq_false, eq_self, Bool.true_or, Bool.false_or, Bool.true_and, Bool.false_and, Bool.or_true, Bool.or_false, Bool.and_true, Bool.and_false, List.getD_cons_zero, List.getD_cons_succ, cell_int, cell_bool, cell_str, cell_sl, cell_agg, i_int, b_bool, s_str, nb_sl, els_sl, nb_ov, els_ov, cs_pv, cs_agg, Int.toNat_natCast, toNat_sub1, toNat_add1, List.length_map, getD_map, ct, cf, beqd, bned, cp, cn, cnp, cnn, if_pos, if_neg, wrap64, Option.bind_some, Bool.not_true, Bool.not_false, List.isEmpty_nil, List.nil_append, List.length_nil, List.length_cons, Nat.zero_add]
    · simp (disch := omega) only [decide_true, decide_false, if_true, if_false, Bool.false_eq_true, Bool.true_eq_false, eq_self, Bool.true_or, Bool.false_or, Bool.true_and, Bool.false_and, Bool.or_true, Bool.or_false, Bool.and_true, Bool.and_false, List.getD_cons_zero, List.getD_cons_succ, cell_int, cell_bool, cell_str, cell_sl, cell_agg, i_int, b_bool, s_str, nb_sl, els_sl, nb_ov, els_ov, cs_pv, cs_agg, Int.toNat_natCast, toNat_sub1, toNat_add1, List.length_map, getD_map, ct, cf, beqd, bned, cp, cn, cnp, cnn, if_pos, if_neg, wrap64, Option.bind_some, Bool.not_true, Bool.not_false, List.isEmpty_nil, List.nil_append, List.length_nil, List.length_cons, Nat.zero_add]

theorem less_ok (x y : Int) : Cl ty tab 58 [.int .u32 x, .int .u32 y] = some [.bool (decide (x < y))] := by
  refine s_cmp_Less 0 _ _ ?_
  unfold cmp_Less
  simp (disch := omega) only [decide_true, decide_false, if_true, if_false, Bool.false_eq_true, Bool.true_eq_false, eq_self, Bool.true_or, Bool.false_or, Bool.true_and, Bool.false_and, Bool.or_true, Bool.or_false, Bool.and_true, Bool.and_false, List.getD_cons_zero, List.getD_cons_succ, cell_int, cell_bool, cell_str, cell_sl, cell_agg, i_int, b_bool, s_str, nb_sl, els_sl, nb_ov, els_ov, cs_pv, cs_agg, Int.toNat_natCast, toNat_sub1, toNat_add1, List.length_map, getD_map, ct, cf, beqd, bned, cp, cn, cnp, cnn, if_pos, if_neg, wrap64, Option.bind_some, Bool.not_true, Bool.not_false, List.isEmpty_nil, List.nil_append, List.length_nil, List.length_cons, Nat.zero_add, nan_ok]

theorem hop1_ok (a : At) (x : Int) : Cl ty tab 53 [a.d, .int .u32 x] = some [.int .i64 (if a.c < x then -1 else if x < a.c then 1 else 0)] := by
  refine s_leak_hop_1 0 _ _ _ _ ?_
  unfold leak_hop_1
  simp (disch := omega) only [decide_true, decide_false, if_true, if_false, Bool.false_eq_true, Bool.true_eq_false, eq_self, Bool.true_or, Bool.false_or, Bool.true_and, Bool.false_and, Bool.or_true, Bool.or_false, Bool.and_true, Bool.and_false, List.getD_cons_zero, List.getD_cons_succ, cell_int, cell_bool, cell_str, cell_sl, cell_agg, i_int, b_bool, s_str, nb_sl, els_sl, nb_ov, els_ov, cs_pv, cs_agg, Int.toNat_natCast, toNat_sub1, toNat_add1, List.length_map, getD_map, ct, cf, beqd, bned, cp, cn, cnp, cnn, if_pos, if_neg, wrap64, Option.bind_some, Bool.not_true, Bool.not_false, List.isEmpty_nil, List.nil_append, List.length_nil, List.length_cons, Nat.zero_add, cmp_ok]

theorem bsf_ok (n : Bool) (l : List At) (x : Int) (hl : l.length ≤ 9223372036854775807) (hr : rise (l.map At.c) = true) :
    Cl ty tab 52 [.sl 46 n (l.map At.d), .int .u32 x, .fn 53 []] = some [.int .i64 (lbF (l.map At.c) x), .bool (atLb (l.map At.c) x)] := by
  obtain ⟨k, hk⟩ := rounds
  refine s_slices_BinarySearchFunc k _ _ _ ?_
  unfold slices_BinarySearchFunc
  have hle := lb_le x (l.map At.c)
  have hiff := lb_iff (x := x) hr
  simp only [List.length_map] at hle hiff
  have := iter_wf (F := slices_BinarySearchFunc.b0 (Cl ty tab) k (l.map At.d) x) (σ := Nat × Nat) (fun s => [.int .i64 s.1, .int .i64 s.2]) (fun _ => some [.int .i64 (lbF (l.map At.c) x), .bool (atLb (l.map At.c) x)]) (fun s => s.2 - s.1)
    (fun s => s.1 ≤ lbF (l.map At.c) x ∧ lbF (l.map At.c) x ≤ s.2 ∧ s.2 ≤ l.length) (fun s hs again ha => ?_) k (0, l.length) ⟨Nat.zero_le _, hle, Nat.le_refl _⟩ (by omega)
  · simpa using this
  · obtain ⟨i, j⟩ := s
    simp only at hs ha
    obtain ⟨s1, s2, s3⟩ := hs
    unfold slices_BinarySearchFunc.b0
    by_cases hij : i < j
    · have hm := mid (i := i) (j := j) (by omega) (by omega)
      have hlt : (i + j) / 2 < l.length := by omega
      have h1 := hop1_ok l[(i + j) / 2] x
      have h2 := hiff ((i + j) / 2) hlt
      simp only [List.getElem_map] at h2
      by_cases h3 : l[(i + j) / 2].c < x
      · have := ha ((i + j) / 2 + 1, j) ⟨h2.1 h3, s2, s3⟩ (by simp only; omega)
        simp (disch := omega) only [decide_true, decide_false, if_true, if_false, Bool.false_eq_true, Bool.true_eq_false, eq_self, Bool.true_or, Bool.false_or, Bool.true_and, Bool.false_and, Bool.or_true, Bool.or_false, Bool.and_true, Bool.and_false, List.getD_cons_zero, List.getD_cons_succ, cell_int, cell_bool, cell_str, cell_sl, cell_agg, i_int, b_bool, s_str, nb_sl, els_sl, nb_ov, els_ov, cs_pv, cs_agg, Int.toNat_natCast, toNat_sub1, toNat_add1, List.length_map, getD_map, ct, cf, beqd, bned, cp, cn, cnp, cnn, if_pos, if_neg, wrap64, Option.bind_some, Bool.not_true, Bool.not_false, List.isEmpty_nil, List.nil_append, List.length_nil, List.length_cons, Nat.zero_add, hm, At.d] at h1 ⊢
        simp (disch := omega) only [decide_true, decide_false, if_true, if_false, Bool.false_eq_true, Bool.true_eq_false, eq_self, Bool.true_or, Bool.false_or, Bool.true_and, Bool.false_and, Bool.or_true, Bool.or_false, Bool.and_true, Bool.and_false, List.getD_cons_zero, List.getD_cons_succ, cell_int, cell_bool, cell_str, cell_sl, cell_agg, i_int, b_bool, s_str, nb_sl, els_sl, nb_ov, els_ov, cs_pv, cs_agg, Int.toNat_natCast, toNat_sub1, toNat_add1, List.length_map, getD_map, ct, cf, beqd, bned, cp, cn, cnp, cnn, if_pos, if_neg, wrap64, Option.bind_some, Bool.not_true, Bool.not_false, List.isEmpty_nil, List.nil_append, List.length_nil, List.length_cons, Nat.zero_add, h1]
        exact this
      · have h4 : ¬ (i + j) / 2 < lbF (l.map At.c) x := fun h => h3 (h2.2 h)
        have := ha (i, (i + j) / 2) ⟨s1, by simp only; omega, by simp only; omega⟩ (by simp only; omega)
        simp (disch := omega) only [decide_true, decide_false, if_true, if_false, Bool.false_eq_true, Bool.true_eq_false, eq_self, Bool.true_or, Bool.false_or, Bool.true_and, Bool.false_and, Bool.or_true, Bool.or_false, Bool.and_true, Bool.and_false, List.getD_cons_zero, List.getD_cons_succ, cell_int, cell_bool, cell_str, cell_sl, cell_agg, i_int, b_bool, s_str, nb_sl, els_sl, nb_ov, els_ov, cs_pv, cs_agg, Int.toNat_natCast, toNat_sub1, toNat_add1, List.length_map, getD_map, ct, cf, beqd, bned, cp, cn, cnp, cnn, if_pos, if_neg, wrap64, Option.bind_some, Bool.not_true, Bool.not_false, List.isEmpty_nil, List.nil_append, List.length_nil, List.length_cons, Nat.zero_add, hm, At.d] at h1 ⊢
        by_cases h5 : x < l[(i + j) / 2].c
        · simp (disch := omega) only [decide_true, decide_false, if_true, if_false, Bool.false_eq_true, Bool.true_eq_false, eq_self, Bool.true_or, Bool.false_or, Bool.true_and, Bool.false_and, Bool.or_true, Bool.or_false, Bool.and_true, Bool.and_false, List.getD_cons_zero, List.getD_cons_succ, cell_int, cell_bool, cell_str, cell_sl, cell_agg, i_int, b_bool, s_str, nb_sl, els_sl, nb_ov, els_ov, cs_pv, cs_agg, Int.toNat_natCast, toNat_sub1, toNat_add1, List.length_map, getD_map, ct, cf, beqd, bned, cp, cn, cnp, cnn, if_pos, if_neg, wrap64, Option.bind_some, Bool.not_true, Bool.not_false, List.isEmpty_nil, List.nil_append, List.length_nil, List.length_cons, Nat.zero_add, h1]
          exact this
        · simp (disch := omega) only [decide_true, decide_false, if_true, if_false, Bool.false_eq_true, Bool.true_eq_false, eq_self, Bool.true_or, Bool.false_or, Bool.true_and, Bool.false_and, Bool.or_true, Bool.or_false, Bool.and_true, Bool.and_false, List.getD_cons_zero, List.getD_cons_succ, cell_int, cell_bool, cell_str, cell_sl, cell_agg, i_int, b_bool, s_str, nb_sl, els_sl, nb_ov, els_ov, cs_pv, cs_agg, Int.toNat_natCast, toNat_sub1, toNat_add1, List.length_map, getD_map, ct, cf, beqd, bned, cp, cn, cnp, cnn, if_pos, if_neg, wrap64, Option.bind_some, Bool.not_true, Bool.not_false, List.isEmpty_nil, List.nil_append, List.length_nil, List.length_cons, Nat.zero_add, h1]
          exact this
    · have e : i = lbF (l.map At.c) x := by omega
      rw [← e]
      by_cases hlt : i < l.length
      · have h1 := hop1_ok l[i] x
        have h2 := hiff i hlt
        simp only [List.getElem_map] at h2
        simp (disch := omega) only [decide_true, decide_false, if_true, if_false, Bool.false_eq_true, Bool.true_eq_false, eq_self, Bool.true_or, Bool.false_or, Bool.true_and, Bool.false_and, Bool.or_true, Bool.or_false, Bool.and_true, Bool.and_false, List.getD_cons_zero, List.getD_cons_succ, cell_int, cell_bool, cell_str, cell_sl, cell_agg, i_int, b_bool, s_str, nb_sl, els_sl, nb_ov, els_ov, cs_pv, cs_agg, Int.toNat_natCast, toNat_sub1, toNat_add1, List.length_map, getD_map, ct, cf, beqd, bned, cp, cn, cnp, cnn, if_pos, if_neg, wrap64, Option.bind_some, Bool.not_true, Bool.not_false, List.isEmpty_nil, List.nil_append, List.length_nil, List.length_cons, Nat.zero_add, At.d] at h1 ⊢
        simp (disch := omega) only [decide_true, decide_false, if_true, if_false, Bool.false_eq_true, Bool.true_eq_false, eq_self, Bool.true_or, Bool.false_or, Bool.true_and, Bool.false_and, Bool.or_true, Bool.or_false, Bool.and_true, Bool.and_false, List.getD_cons_zero, List.getD_cons_succ, cell_int, cell_bool, cell_str, cell_sl, cell_agg, i_int, b_bool, s_str, nb_sl, els_sl, nb_ov, els_ov, cs_pv, cs_agg, Int.toNat_natCast, toNat_sub1, toNat_add1, List.length_map, getD_map, ct, cf, beqd, bned, cp, cn, cnp, cnn, if_pos, if_neg, wrap64, Option.bind_some, Bool.not_true, Bool.not_false, List.isEmpty_nil, List.nil_append, List.length_nil, List.length_cons, Nat.zero_add, h1]
        have h3 : ¬ l[i].c < x := fun h => by have := h2.1 h; omega
        have h4 : atLb (l.map At.c) x = decide (l[i].c = x) := by unfold atLb; rw [← e]; simp [hlt]
        rw [h4]
        by_cases h5 : x < l[i].c
        · simp (disch := omega) only [decide_true, decide_false, if_true, if_false, Bool.false_eq_true, Bool.true_eq_false, eq_self, Bool.true_or, Bool.false_or, Bool.true_and, Bool.false_and, Bool.or_true, Bool.or_false, Bool.and_true, Bool.and_false, List.getD_cons_zero, List.getD_cons_succ, cell_int, cell_bool, cell_str, cell_sl, cell_agg, i_int, b_bool, s_str, nb_sl, els_sl, nb_ov, els_ov, cs_pv, cs_agg, Int.toNat_natCast, toNat_sub1, toNat_add1, List.length_map, getD_map, ct, cf, beqd, bned, cp, cn, cnp, cnn, if_pos, if_neg, wrap64, Option.bind_some, Bool.not_true, Bool.not_false, List.isEmpty_nil, List.nil_append, List.length_nil, List.length_cons, Nat.zero_add, dF]
        · simp (disch := omega) only [decide_true, decide_false, if_true, if_false, Bool.false_eq_true, Bool.true_eq_false, eq_self, Bool.true_or, Bool.false_or, Bool.true_and, Bool.false_and, Bool.or_true, Bool.or_false, Bool.and_true, Bool.and_false, List.getD_cons_zero, List.getD_cons_succ, cell_int, cell_bool, cell_str, cell_sl, cell_agg, i_int, b_bool, s_str, nb_sl, els_sl, nb_ov, els_ov, cs_pv, cs_agg, Int.toNat_natCast, toNat_sub1, toNat_add1, List.length_map, getD_map, ct, cf, beqd, bned, cp, cn, cnp, cnn, if_pos, if_neg, wrap64, Option.bind_some, Bool.not_true, Bool.not_false, List.isEmpty_nil, List.nil_append, List.length_nil, List.length_cons, Nat.zero_add, dT]
      · have h4 : atLb (l.map At.c) x = false := by unfold atLb; rw [← e]; simp [hlt]
        simp (disch := omega) only [decide_true, decide_false, if_true, if_false, Bool.false_eq_true, Bool.true_eq_false, eq_self, Bool.true_or, Bool.false_or, Bool.true_and, Bool.false_and, Bool.or_true, Bool.or_false, Bool.and_true, Bool.and_false, List.getD_cons_zero, List.getD_cons_succ, cell_int, cell_bool, cell_str, cell_sl, cell_agg, i_int, b_bool, s_str, nb_sl, els_sl, nb_ov, els_ov, cs_pv, cs_agg, Int.toNat_natCast, toNat_sub1, toNat_add1, List.length_map, getD_map, ct, cf, beqd, bned, cp, cn, cnp, cnn, if_pos, if_neg, wrap64, Option.bind_some, Bool.not_true, Bool.not_false, List.isEmpty_nil, List.nil_append, List.length_nil, List.length_cons, Nat.zero_add, h4]

theorem bs_ok (n : Bool) (l : List Int) (x : Int) (hl : l.length ≤ 9223372036854775807) (hr : rise l = true) :
    Cl ty tab 55 [.sl 23 n (l.map (D.int .u32)), .int .u32 x] = some [.int .i64 (lbF l x), .bool (atLb l x)] := by
  obtain ⟨k, hk⟩ := rounds
  refine s_slices_BinarySearch k _ _ _ ?_
  unfold slices_BinarySearch
  have hle := lb_le x l
  have hiff := lb_iff (x := x) hr
  have := iter_wf (F := slices_BinarySearch.b0 (Cl ty tab) k (l.map (D.int .u32)) x) (σ := Nat × Nat) (fun s => [.int .i64 s.1, .int .i64 s.2]) (fun _ => some [.int .i64 (lbF l x), .bool (atLb l x)]) (fun s => s.2 - s.1)
    (fun s => s.1 ≤ lbF l x ∧ lbF l x ≤ s.2 ∧ s.2 ≤ l.length) (fun s hs again ha => ?_) k (0, l.length) ⟨Nat.zero_le _, hle, Nat.le_refl _⟩ (by omega)
  · simpa using this
  · obtain ⟨i, j⟩ := s
    simp only at hs ha
    obtain ⟨s1, s2, s3⟩ := hs
    unfold slices_BinarySearch.b0
    by_cases hij : i < j
    · have hm := mid (i := i) (j := j) (by omega) (by omega)
      have hlt : (i + j) / 2 < l.length := by omega
      have h2 := hiff ((i + j) / 2) hlt
      by_cases h3 : l[(i + j) / 2] < x
      · have := ha ((i + j) / 2 + 1, j) ⟨h2.1 h3, s2, s3⟩ (by simp only; omega)
        simp (disch := omega) only [decide_true, decide_false, if_true, if_false, Bool.false_eq_true, Bool.true_eq_false, eq_self, Bool.true_or, Bool.false_or, Bool.true_and, Bool.false_and, Bool.or_true, Bool.or_false, Bool.and_true, Bool.and_false, List.getD_cons_zero, List.getD_cons_succ, cell_int, cell_bool, cell_str, cell_sl, cell_agg, i_int, b_bool, s_str, nb_sl, els_sl, nb_ov, els_ov, cs_pv, cs_agg, Int.toNat_natCast, toNat_sub1, toNat_add1, List.length_map, getD_map, ct, cf, beqd, bned, cp, cn, cnp, cnn, if_pos, if_neg, wrap64, Option.bind_some, Bool.not_true, Bool.not_false, List.isEmpty_nil, List.nil_append, List.length_nil, List.length_cons, Nat.zero_add, hm, less_ok]
        exact this
      · have h4 : ¬ (i + j) / 2 < lbF l x := fun h => h3 (h2.2 h)
        have := ha (i, (i + j) / 2) ⟨s1, by simp only; omega, by simp only; omega⟩ (by simp only; omega)
        simp (disch := omega) only [decide_true, decide_false, if_true, if_false, Bool.false_eq_true, Bool.true_eq_false, eq_self, Bool.true_or, Bool.false_or, Bool.true_and, Bool.false_and, Bool.or_true, Bool.or_false, Bool.and_true, Bool.and_false, List.getD_cons_zero, List.getD_cons_succ, cell_int, cell_bool, cell_str, cell_sl, cell_agg, i_int, b_bool, s_str, nb_sl, els_sl, nb_ov, els_ov, cs_pv, cs_agg, Int.toNat_natCast, toNat_sub1, toNat_add1, List.length_map, getD_map, ct, cf, beqd, bned, cp, cn, cnp, cnn, if_pos, if_neg, wrap64, Option.bind_some, Bool.not_true, Bool.not_false, List.isEmpty_nil, List.nil_append, List.length_nil, List.length_cons, Nat.zero_add, hm, less_ok]
        exact this
    · have e : i = lbF l x := by omega
      rw [← e]
      by_cases hlt : i < l.length
      · have h4 : atLb l x = decide (l[i] = x) := by unfold atLb; rw [← e]; simp [hlt]
        rw [h4]
        by_cases h5 : l[i] = x
        · simp (disch := omega) only [decide_true, decide_false, if_true, if_false, Bool.false_eq_true, Bool.true_eq_false, eq_self, Bool.true_or, Bool.false_or, Bool.true_and, Bool.false_and, Bool.or_true, Bool.or_false, Bool.and_true, Bool.and_false, List.getD_cons_zero, List.getD_cons_succ, cell_int, cell_bool, cell_str, cell_sl, cell_agg, i_int, b_bool, s_str, nb_sl, els_sl, nb_ov, els_ov, cs_pv, cs_agg, Int.toNat_natCast, toNat_sub1, toNat_add1, List.length_map, getD_map, ct, cf, beqd, bned, cp, cn, cnp, cnn, if_pos, if_neg, wrap64, Option.bind_some, Bool.not_true, Bool.not_false, List.isEmpty_nil, List.nil_append, List.length_nil, List.length_cons, Nat.zero_add, dT]
        · simp (disch := omega) only [decide_true, decide_false, if_true, if_false, Bool.false_eq_true, Bool.true_eq_false, eq_self, Bool.true_or, Bool.false_or, Bool.true_and, Bool.false_and, Bool.or_true, Bool.or_false, Bool.and_true, Bool.and_false, List.getD_cons_zero, List.getD_cons_succ, cell_int, cell_bool, cell_str, cell_sl, cell_agg, i_int, b_bool, s_str, nb_sl, els_sl, nb_ov, els_ov, cs_pv, cs_agg, Int.toNat_natCast, toNat_sub1, toNat_add1, List.length_map, getD_map, ct, cf, beqd, bned, cp, cn, cnp, cnn, if_pos, if_neg, wrap64, Option.bind_some, Bool.not_true, Bool.not_false, List.isEmpty_nil, List.nil_append, List.length_nil, List.length_cons, Nat.zero_add, dF, nan2_ok]
      · have h4 : atLb l x = false := by unfold atLb; rw [← e]; simp [hlt]
        simp (disch := omega) only [decide_true, decide_false, if_true, if_false, Bool.false_eq_true, Bool.true_eq_false, eq_self, Bool.true_or, Bool.false_or, Bool.true_and, Bool.false_and, Bool.or_true, Bool.or_false, Bool.and_true, Bool.and_false, List.getD_cons_zero, List.getD_cons_succ, cell_int, cell_bool, cell_str, cell_sl, cell_agg, i_int, b_bool, s_str, nb_sl, els_sl, nb_ov, els_ov, cs_pv, cs_agg, Int.toNat_natCast, toNat_sub1, toNat_add1, List.length_map, getD_map, ct, cf, beqd, bned, cp, cn, cnp, cnn, if_pos, if_neg, wrap64, Option.bind_some, Bool.not_true, Bool.not_false, List.isEmpty_nil, List.nil_append, List.length_nil, List.length_cons, Nat.zero_add, h4]

end Go.Proofs.Ytklbnnkdkkcgoaa.Own
