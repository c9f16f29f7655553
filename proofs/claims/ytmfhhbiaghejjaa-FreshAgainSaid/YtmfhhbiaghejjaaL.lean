import Derived.Test.YtmfhhbiaghejjaaK
namespace Go.Proofs.Ytmfhhbiaghejjaa.Own
open Go Go.Proofs.Ytmfhhbiaghejjaa.GD
set_option linter.unusedVariables false
set_option linter.unusedSimpArgs false

theorem insert_ok (n : Bool) (l : List D) (i : Nat) (x : D) (hi : i ≤ l.length) (hl : l.length ≤ 200) : Cl ty tab 42 [.ov 47 n l, .int .i64 i, .ov 47 false [x]] = some [.ov 47 false (l.take i ++ [x] ++ l.drop i)] := by
  rw [s_slices_Insert]
  unfold insSpec
  have : (l.length + [x].length) * 80 ≤ 140737488355328 := by simp; omega
  simp only [this, List.isEmpty_cons, and_true, true_and, Int.toNat_natCast]
  rw [if_pos (by omega)]

def lookW (l : List D) (x : D) (now : Int) (o : Option D) : List D × Int × Int :=
  if til x < now then (l, 6, 0) else if now < frm x then (l, 7, 0) else match o with
    | none => if l.length = 200 then ([], 0, 16) else (putF l x, 1, 0)
    | some old => if judgeF x old = 2 ∨ judgeF x old = 3 then (putF l x, judgeF x old, 0) else (l, judgeF x old, 0)

def lookV (l : List D) (x : D) (now : Int) : List D × Int × Int :=
  if checkF l ≠ 0 then ([], 0, checkF l)
  else if mom now = true ∧ rightF x = true ∧ seen x = now then match look l (uri x) with
    | some old => if now < seen old then ([], 0, 30) else lookW l x now (some old)
    | none => lookW l x now none
  else ([], 0, 2)

attribute [local irreducible] num seen frm til hsh uri

theorem judgeF_cases (x old : D) : judgeF x old = 4 ∨ judgeF x old = 2 ∨ judgeF x old = 5 ∨ judgeF x old = 8 ∨ judgeF x old = 3 := by
  unfold judgeF
  split
  · simp
  · split
    · simp
    · split
      · simp
      · split <;> simp

set_option maxHeartbeats 1000000 in
theorem look_ok (n : Bool) (l : List D) (x : D) (now : Int) (hl : Fine l) (hx : Fit x) (hn : n = true → l = []) :
    ∃ m, Cl ty tab 22 [.sl 47 n l, x, .int .i64 now] = some [.ov 47 m (lookV l x now).1, .int .u8 (lookV l x now).2.1, .int .i64 (lookV l x now).2.2] ∧ (m = true → (lookV l x now).1 = []) := by
  have ex : D.agg (etaCells ks0 x 0) = x := eta_fit hx
  suffices h : ∃ m, fresh_Look (Cl ty tab) 0 n l x now = some [.ov 47 m (lookV l x now).1, .int .u8 (lookV l x now).2.1, .int .i64 (lookV l x now).2.2] ∧ (m = true → (lookV l x now).1 = []) by
    obtain ⟨m, h1, h2⟩ := h
    refine ⟨m, ?_, h2⟩
    have := s_fresh_Look 0 n l x now h1
    rwa [ex] at this
  unfold fresh_Look
  simp only [ex, g34, g35, g36]
  unfold lookV
  by_cases hc : checkF l = 0
  case neg =>
    refine ⟨true, ?_, fun _ => ?_⟩
    · simp (disch := omega) only [decide_true, decide_false, if_true, if_false, Bool.false_eq_true, Bool.true_eq_false, eq_self, Bool.true_or, Bool.false_or, Bool.true_and, Bool.false_and, Bool.or_true, Bool.or_false, Bool.and_true, Bool.and_false, List.getD_cons_zero, List.getD_cons_succ, cell_int, cell_bool, cell_str, cell_sl, cell_agg, i_int, b_bool, s_str, nb_sl, els_sl, nb_ov, els_ov, cs_pv, cs_agg, Int.toNat_natCast, toNat_sub1, toNat_add1, List.length_map, getD_map, ct, cf, beqd, bned, cp, cn, cnp, cnn, if_pos, if_neg, wrap64, Option.bind_some, Bool.not_true, Bool.not_false, List.isEmpty_nil, List.nil_append, List.length_nil, List.length_cons, Nat.zero_add, check_ok n l hl, hc, ne_eq, not_false_eq_true]
    · simp (disch := omega) only [decide_true, decide_false, if_true, if_false, Bool.false_eq_true, Bool.true_eq_false, eq_self, Bool.true_or, Bool.false_or, Bool.true_and, Bool.false_and, Bool.or_true, Bool.or_false, Bool.and_true, Bool.and_false, List.getD_cons_zero, List.getD_cons_succ, cell_int, cell_bool, cell_str, cell_sl, cell_agg, i_int, b_bool, s_str, nb_sl, els_sl, nb_ov, els_ov, cs_pv, cs_agg, Int.toNat_natCast, toNat_sub1, toNat_add1, List.length_map, getD_map, ct, cf, beqd, bned, cp, cn, cnp, cnn, if_pos, if_neg, wrap64, Option.bind_some, Bool.not_true, Bool.not_false, List.isEmpty_nil, List.nil_append, List.length_nil, List.length_cons, Nat.zero_add, hc, ne_eq, not_false_eq_true]
  obtain ⟨c1, c2, c3⟩ := check_zero hc
  cases hm : mom now
  · refine ⟨true, ?_, fun _ => ?_⟩
    · simp (disch := omega) only [decide_true, decide_false, if_true, if_false, Bool.false_eq_true, Bool.true_eq_false, eq_self, Bool.true_or, Bool.false_or, Bool.true_and, Bool.false_and, Bool.or_true, Bool.or_false, Bool.and_true, Bool.and_false, List.getD_cons_zero, List.getD_cons_succ, cell_int, cell_bool, cell_str, cell_sl, cell_agg, i_int, b_bool, s_str, nb_sl, els_sl, nb_ov, els_ov, cs_pv, cs_agg, Int.toNat_natCast, toNat_sub1, toNat_add1, List.length_map, getD_map, ct, cf, beqd, bned, cp, cn, cnp, cnn, if_pos, if_neg, wrap64, Option.bind_some, Bool.not_true, Bool.not_false, List.isEmpty_nil, List.nil_append, List.length_nil, List.length_cons, Nat.zero_add, check_ok n l hl, hc, ne_eq, not_true_eq_false, moment_ok, hm, false_and]
    · simp (disch := omega) only [decide_true, decide_false, if_true, if_false, Bool.false_eq_true, Bool.true_eq_false, eq_self, Bool.true_or, Bool.false_or, Bool.true_and, Bool.false_and, Bool.or_true, Bool.or_false, Bool.and_true, Bool.and_false, List.getD_cons_zero, List.getD_cons_succ, cell_int, cell_bool, cell_str, cell_sl, cell_agg, i_int, b_bool, s_str, nb_sl, els_sl, nb_ov, els_ov, cs_pv, cs_agg, Int.toNat_natCast, toNat_sub1, toNat_add1, List.length_map, getD_map, ct, cf, beqd, bned, cp, cn, cnp, cnn, if_pos, if_neg, wrap64, Option.bind_some, Bool.not_true, Bool.not_false, List.isEmpty_nil, List.nil_append, List.length_nil, List.length_cons, Nat.zero_add, hc, ne_eq, not_true_eq_false, hm, false_and]
  cases hr : rightF x
  · refine ⟨true, ?_, fun _ => ?_⟩
    · simp (disch := omega) only [decide_true, decide_false, if_true, if_false, Bool.false_eq_true, Bool.true_eq_false, eq_self, Bool.true_or, Bool.false_or, Bool.true_and, Bool.false_and, Bool.or_true, Bool.or_false, Bool.and_true, Bool.and_false, List.getD_cons_zero, List.getD_cons_succ, cell_int, cell_bool, cell_str, cell_sl, cell_agg, i_int, b_bool, s_str, nb_sl, els_sl, nb_ov, els_ov, cs_pv, cs_agg, Int.toNat_natCast, toNat_sub1, toNat_add1, List.length_map, getD_map, ct, cf, beqd, bned, cp, cn, cnp, cnn, if_pos, if_neg, wrap64, Option.bind_some, Bool.not_true, Bool.not_false, List.isEmpty_nil, List.nil_append, List.length_nil, List.length_cons, Nat.zero_add, check_ok n l hl, hc, ne_eq, not_true_eq_false, moment_ok, right_ok x hx, hm, hr, false_and, and_false]
    · simp (disch := omega) only [decide_true, decide_false, if_true, if_false, Bool.false_eq_true, Bool.true_eq_false, eq_self, Bool.true_or, Bool.false_or, Bool.true_and, Bool.false_and, Bool.or_true, Bool.or_false, Bool.and_true, Bool.and_false, List.getD_cons_zero, List.getD_cons_succ, cell_int, cell_bool, cell_str, cell_sl, cell_agg, i_int, b_bool, s_str, nb_sl, els_sl, nb_ov, els_ov, cs_pv, cs_agg, Int.toNat_natCast, toNat_sub1, toNat_add1, List.length_map, getD_map, ct, cf, beqd, bned, cp, cn, cnp, cnn, if_pos, if_neg, wrap64, Option.bind_some, Bool.not_true, Bool.not_false, List.isEmpty_nil, List.nil_append, List.length_nil, List.length_cons, Nat.zero_add, hc, ne_eq, not_true_eq_false, hm, hr, false_and, and_false]
  by_cases hs : seen x = now
  case neg =>
    refine ⟨true, ?_, fun _ => ?_⟩
    · simp (disch := omega) only [decide_true, decide_false, if_true, if_false, Bool.false_eq_true, Bool.true_eq_false, eq_self, Bool.true_or, Bool.false_or, Bool.true_and, Bool.false_and, Bool.or_true, Bool.or_false, Bool.and_true, Bool.and_false, List.getD_cons_zero, List.getD_cons_succ, cell_int, cell_bool, cell_str, cell_sl, cell_agg, i_int, b_bool, s_str, nb_sl, els_sl, nb_ov, els_ov, cs_pv, cs_agg, Int.toNat_natCast, toNat_sub1, toNat_add1, List.length_map, getD_map, ct, cf, beqd, bned, cp, cn, cnp, cnn, if_pos, if_neg, wrap64, Option.bind_some, Bool.not_true, Bool.not_false, List.isEmpty_nil, List.nil_append, List.length_nil, List.length_cons, Nat.zero_add, check_ok n l hl, hc, ne_eq, not_true_eq_false, moment_ok, right_ok x hx, hm, hr, hs, and_false, not_false_eq_true]
    · simp (disch := omega) only [decide_true, decide_false, if_true, if_false, Bool.false_eq_true, Bool.true_eq_false, eq_self, Bool.true_or, Bool.false_or, Bool.true_and, Bool.false_and, Bool.or_true, Bool.or_false, Bool.and_true, Bool.and_false, List.getD_cons_zero, List.getD_cons_succ, cell_int, cell_bool, cell_str, cell_sl, cell_agg, i_int, b_bool, s_str, nb_sl, els_sl, nb_ov, els_ov, cs_pv, cs_agg, Int.toNat_natCast, toNat_sub1, toNat_add1, List.length_map, getD_map, ct, cf, beqd, bned, cp, cn, cnp, cnn, if_pos, if_neg, wrap64, Option.bind_some, Bool.not_true, Bool.not_false, List.isEmpty_nil, List.nil_append, List.length_nil, List.length_cons, Nat.zero_add, hc, ne_eq, not_true_eq_false, hm, hr, hs, and_false]
  have hf := find_ok n l (x.cell 0).s hl c2
  have e0 : ((x.cell 0).s).toList = uri x := g0 x
  rw [e0] at hf
  simp only [hc, hm, hr, hs, ne_eq, not_true_eq_false, if_false, and_self, if_true] 
  have hcl := clone_ok n l c1 hn
  cases ha : atS l (uri x) with
  | false =>
    rw [ha] at hf
    have hlk := at_none c2 ha
    have hput := put_new x c2 ha
    rw [hlk] 
    simp only [] 
    unfold lookW 
    by_cases h1 : til x < now
    · refine ⟨n, ?_, fun hnn => by simp only [h1, if_true]; exact hn hnn⟩
      simp (disch := omega) only [decide_true, decide_false, if_true, if_false, Bool.false_eq_true, Bool.true_eq_false, eq_self, Bool.true_or, Bool.false_or, Bool.true_and, Bool.false_and, Bool.or_true, Bool.or_false, Bool.and_true, Bool.and_false, List.getD_cons_zero, List.getD_cons_succ, cell_int, cell_bool, cell_str, cell_sl, cell_agg, i_int, b_bool, s_str, nb_sl, els_sl, nb_ov, els_ov, cs_pv, cs_agg, Int.toNat_natCast, toNat_sub1, toNat_add1, List.length_map, getD_map, ct, cf, beqd, bned, cp, cn, cnp, cnn, if_pos, if_neg, wrap64, Option.bind_some, Bool.not_true, Bool.not_false, List.isEmpty_nil, List.nil_append, List.length_nil, List.length_cons, Nat.zero_add, check_ok n l hl, hc, ne_eq, not_true_eq_false, moment_ok, right_ok x hx, hm, hr, hs, hf, hcl, h1]
    by_cases h2 : now < frm x
    · refine ⟨n, ?_, fun hnn => by simp only [h1, h2, if_true, if_false]; exact hn hnn⟩
      simp (disch := omega) only [decide_true, decide_false, if_true, if_false, Bool.false_eq_true, Bool.true_eq_false, eq_self, Bool.true_or, Bool.false_or, Bool.true_and, Bool.false_and, Bool.or_true, Bool.or_false, Bool.and_true, Bool.and_false, List.getD_cons_zero, List.getD_cons_succ, cell_int, cell_bool, cell_str, cell_sl, cell_agg, i_int, b_bool, s_str, nb_sl, els_sl, nb_ov, els_ov, cs_pv, cs_agg, Int.toNat_natCast, toNat_sub1, toNat_add1, List.length_map, getD_map, ct, cf, beqd, bned, cp, cn, cnp, cnn, if_pos, if_neg, wrap64, Option.bind_some, Bool.not_true, Bool.not_false, List.isEmpty_nil, List.nil_append, List.length_nil, List.length_cons, Nat.zero_add, check_ok n l hl, hc, ne_eq, not_true_eq_false, moment_ok, right_ok x hx, hm, hr, hs, hf, hcl, h1, h2]
    by_cases h3 : l.length = 200
    · refine ⟨true, ?_, fun _ => by simp only [h1, h2, h3, if_true, if_false]⟩
      simp (disch := omega) only [decide_true, decide_false, if_true, if_false, Bool.false_eq_true, Bool.true_eq_false, eq_self, Bool.true_or, Bool.false_or, Bool.true_and, Bool.false_and, Bool.or_true, Bool.or_false, Bool.and_true, Bool.and_false, List.getD_cons_zero, List.getD_cons_succ, cell_int, cell_bool, cell_str, cell_sl, cell_agg, i_int, b_bool, s_str, nb_sl, els_sl, nb_ov, els_ov, cs_pv, cs_agg, Int.toNat_natCast, toNat_sub1, toNat_add1, List.length_map, getD_map, ct, cf, beqd, bned, cp, cn, cnp, cnn, if_pos, if_neg, wrap64, Option.bind_some, Bool.not_true, Bool.not_false, List.isEmpty_nil, List.nil_append, List.length_nil, List.length_cons, Nat.zero_add, check_ok n l hl, hc, ne_eq, not_true_eq_false, moment_ok, right_ok x hx, hm, hr, hs, hf, hcl, h1, h2, h3]
    · refine ⟨false, ?_, fun h => by cases h⟩
      have hins := insert_ok n l (lbS l (uri x)) x (lb_le _ _) c1
      rw [← hput] at hins
      have h3' : ¬ ((l.length : Nat) : Int) = 200 := by omega
      simp (disch := omega) only [decide_true, decide_false, if_true, if_false, Bool.false_eq_true, Bool.true_eq_false, eq_self, Bool.true_or, Bool.false_or, Bool.true_and, Bool.false_and, Bool.or_true, Bool.or_false, Bool.and_true, Bool.and_false, List.getD_cons_zero, List.getD_cons_succ, cell_int, cell_bool, cell_str, cell_sl, cell_agg, i_int, b_bool, s_str, nb_sl, els_sl, nb_ov, els_ov, cs_pv, cs_agg, Int.toNat_natCast, toNat_sub1, toNat_add1, List.length_map, getD_map, ct, cf, beqd, bned, cp, cn, cnp, cnn, if_pos, if_neg, wrap64, Option.bind_some, Bool.not_true, Bool.not_false, List.isEmpty_nil, List.nil_append, List.length_nil, List.length_cons, Nat.zero_add, check_ok n l hl, hc, ne_eq, not_true_eq_false, moment_ok, right_ok x hx, hm, hr, hs, hf, hcl, h1, h2, h3, h3', hins]
  | true =>
    rw [ha] at hf
    obtain ⟨hlt, hlk⟩ := at_look c2 ha
    have hput := put_old x c2 ha
    rw [hlk] 
    simp only [] 
    have hfo := hl.fit _ (List.getElem_mem hlt)
    have hj := judge_ok x l[lbS l (uri x)] hx hfo
    have hc3 := judgeF_cases x l[lbS l (uri x)]
    have hg : l.getD (lbS l (uri x)) .undef = l[lbS l (uri x)] := getD_get hlt
    have heta : D.agg (etaCells ks0 l[lbS l (uri x)] 0) = l[lbS l (uri x)] := eta_fit hfo
    generalize l[lbS l (uri x)] = old at *
    generalize lbS l (uri x) = q at *
    have hq : 0 ≤ (q : Int) ∧ (q : Int) < (l.length : Nat) := by omega
    by_cases h0 : now < seen old
    · refine ⟨true, ?_, fun _ => by simp only [h0, if_true]⟩
      simp (disch := omega) only [decide_true, decide_false, if_true, if_false, Bool.false_eq_true, Bool.true_eq_false, eq_self, Bool.true_or, Bool.false_or, Bool.true_and, Bool.false_and, Bool.or_true, Bool.or_false, Bool.and_true, Bool.and_false, List.getD_cons_zero, List.getD_cons_succ, cell_int, cell_bool, cell_str, cell_sl, cell_agg, i_int, b_bool, s_str, nb_sl, els_sl, nb_ov, els_ov, cs_pv, cs_agg, Int.toNat_natCast, toNat_sub1, toNat_add1, List.length_map, getD_map, ct, cf, beqd, bned, cp, cn, cnp, cnn, if_pos, if_neg, wrap64, Option.bind_some, Bool.not_true, Bool.not_false, List.isEmpty_nil, List.nil_append, List.length_nil, List.length_cons, Nat.zero_add, check_ok n l hl, hc, ne_eq, not_true_eq_false, moment_ok, right_ok x hx, hm, hr, hs, hf, hg, g36, h0]
    simp only [h0, if_false] 
    unfold lookW 
    by_cases h1 : til x < now
    · refine ⟨n, ?_, fun hnn => by simp only [h1, if_true]; exact hn hnn⟩
      simp (disch := omega) only [decide_true, decide_false, if_true, if_false, Bool.false_eq_true, Bool.true_eq_false, eq_self, Bool.true_or, Bool.false_or, Bool.true_and, Bool.false_and, Bool.or_true, Bool.or_false, Bool.and_true, Bool.and_false, List.getD_cons_zero, List.getD_cons_succ, cell_int, cell_bool, cell_str, cell_sl, cell_agg, i_int, b_bool, s_str, nb_sl, els_sl, nb_ov, els_ov, cs_pv, cs_agg, Int.toNat_natCast, toNat_sub1, toNat_add1, List.length_map, getD_map, ct, cf, beqd, bned, cp, cn, cnp, cnn, if_pos, if_neg, wrap64, Option.bind_some, Bool.not_true, Bool.not_false, List.isEmpty_nil, List.nil_append, List.length_nil, List.length_cons, Nat.zero_add, check_ok n l hl, hc, ne_eq, not_true_eq_false, moment_ok, right_ok x hx, hm, hr, hs, hf, hg, g36, h0, hcl, h1]
    by_cases h2 : now < frm x
    · refine ⟨n, ?_, fun hnn => by simp only [h1, h2, if_true, if_false]; exact hn hnn⟩
      simp (disch := omega) only [decide_true, decide_false, if_true, if_false, Bool.false_eq_true, Bool.true_eq_false, eq_self, Bool.true_or, Bool.false_or, Bool.true_and, Bool.false_and, Bool.or_true, Bool.or_false, Bool.and_true, Bool.and_false, List.getD_cons_zero, List.getD_cons_succ, cell_int, cell_bool, cell_str, cell_sl, cell_agg, i_int, b_bool, s_str, nb_sl, els_sl, nb_ov, els_ov, cs_pv, cs_agg, Int.toNat_natCast, toNat_sub1, toNat_add1, List.length_map, getD_map, ct, cf, beqd, bned, cp, cn, cnp, cnn, if_pos, if_neg, wrap64, Option.bind_some, Bool.not_true, Bool.not_false, List.isEmpty_nil, List.nil_append, List.length_nil, List.length_cons, Nat.zero_add, check_ok n l hl, hc, ne_eq, not_true_eq_false, moment_ok, right_ok x hx, hm, hr, hs, hf, hg, g36, h0, hcl, h1, h2]
    simp only [h1, h2, if_false] 
    have hnf : n = false := by
      cases n with
      | false => rfl
      | true => rw [hn rfl] at hlt; simp at hlt
    subst hnf
    refine ⟨false, ?_, fun h => by cases h⟩
    generalize judgeF x old = j at *
    rw [hput]
    rcases hc3 with rfl | rfl | rfl | rfl | rfl <;>
      simp (disch := omega) only [decide_true, decide_false, if_true, if_false, Bool.false_eq_true, Bool.true_eq_false, eq_self, Bool.true_or, Bool.false_or, Bool.true_and, Bool.false_and, Bool.or_true, Bool.or_false, Bool.and_true, Bool.and_false, List.getD_cons_zero, List.getD_cons_succ, cell_int, cell_bool, cell_str, cell_sl, cell_agg, i_int, b_bool, s_str, nb_sl, els_sl, nb_ov, els_ov, cs_pv, cs_agg, Int.toNat_natCast, toNat_sub1, toNat_add1, List.length_map, getD_map, ct, cf, beqd, bned, cp, cn, cnp, cnn, if_pos, if_neg, wrap64, Option.bind_some, Bool.not_true, Bool.not_false, List.isEmpty_nil, List.nil_append, List.length_nil, List.length_cons, Nat.zero_add, check_ok false l hl, hc, ne_eq, not_true_eq_false, moment_ok, right_ok x hx, hm, hr, hs, hf, hg, g36, h0, hcl, h1, h2, heta, hj, or_true, true_or, or_self]

set_option maxHeartbeats 2000000 in
theorem rlook_ok (n : Bool) (l : List D) (x : D) (now : Int) (hl : Fine l) (hx : Fit x) :
    ∃ m, Cl ty tab 23 [.sl 47 n l, x, .int .i64 now] = some [.ov 47 m (lookV l x now).1, .int .u8 (lookV l x now).2.1, .int .i64 (lookV l x now).2.2] := by
  have ex : D.agg (etaCells ks0 x 0) = x := eta_fit hx
  suffices h : ∃ m, gatepathref29_Look (Cl ty tab) 0 n l x now = some [.ov 47 m (lookV l x now).1, .int .u8 (lookV l x now).2.1, .int .i64 (lookV l x now).2.2] by
    obtain ⟨m, h1⟩ := h
    refine ⟨m, ?_⟩
    have := s_gatepathref29_Look 0 n l x now h1
    rwa [ex] at this
  unfold gatepathref29_Look
  simp only [ex, g34, g35, g36]
  unfold lookV
  by_cases hc : checkF l = 0
  case neg =>
    refine ⟨true, ?_⟩
    simp (disch := omega) only [decide_true, decide_false, if_true, if_false, Bool.false_eq_true, Bool.true_eq_false, eq_self, Bool.true_or, Bool.false_or, Bool.true_and, Bool.false_and, Bool.or_true, Bool.or_false, Bool.and_true, Bool.and_false, List.getD_cons_zero, List.getD_cons_succ, cell_int, cell_bool, cell_str, cell_sl, cell_agg, i_int, b_bool, s_str, nb_sl, els_sl, nb_ov, els_ov, cs_pv, cs_agg, Int.toNat_natCast, toNat_sub1, toNat_add1, List.length_map, getD_map, ct, cf, beqd, bned, cp, cn, cnp, cnn, if_pos, if_neg, wrap64, Option.bind_some, Bool.not_true, Bool.not_false, List.isEmpty_nil, List.nil_append, List.length_nil, List.length_cons, Nat.zero_add, rcheck_ok n l hl, hc, ne_eq, not_false_eq_true]
  obtain ⟨c1, c2, c3⟩ := check_zero hc
  cases hm : mom now
  · refine ⟨true, ?_⟩
    simp (disch := omega) only [decide_true, decide_false, if_true, if_false, Bool.false_eq_true, Bool.true_eq_false, eq_self, Bool.true_or, Bool.false_or, Bool.true_and, Bool.false_and, Bool.or_true, Bool.or_false, Bool.and_true, Bool.and_false, List.getD_cons_zero, List.getD_cons_succ, cell_int, cell_bool, cell_str, cell_sl, cell_agg, i_int, b_bool, s_str, nb_sl, els_sl, nb_ov, els_ov, cs_pv, cs_agg, Int.toNat_natCast, toNat_sub1, toNat_add1, List.length_map, getD_map, ct, cf, beqd, bned, cp, cn, cnp, cnn, if_pos, if_neg, wrap64, Option.bind_some, Bool.not_true, Bool.not_false, List.isEmpty_nil, List.nil_append, List.length_nil, List.length_cons, Nat.zero_add, rcheck_ok n l hl, hc, ne_eq, not_true_eq_false, rmoment_ok, hm, false_and]
  cases hr : rightF x
  · refine ⟨true, ?_⟩
    simp (disch := omega) only [decide_true, decide_false, if_true, if_false, Bool.false_eq_true, Bool.true_eq_false, eq_self, Bool.true_or, Bool.false_or, Bool.true_and, Bool.false_and, Bool.or_true, Bool.or_false, Bool.and_true, Bool.and_false, List.getD_cons_zero, List.getD_cons_succ, cell_int, cell_bool, cell_str, cell_sl, cell_agg, i_int, b_bool, s_str, nb_sl, els_sl, nb_ov, els_ov, cs_pv, cs_agg, Int.toNat_natCast, toNat_sub1, toNat_add1, List.length_map, getD_map, ct, cf, beqd, bned, cp, cn, cnp, cnn, if_pos, if_neg, wrap64, Option.bind_some, Bool.not_true, Bool.not_false, List.isEmpty_nil, List.nil_append, List.length_nil, List.length_cons, Nat.zero_add, rcheck_ok n l hl, hc, ne_eq, not_true_eq_false, rmoment_ok, rright_ok x hx, hm, hr, false_and, and_false]
  by_cases hs : seen x = now
  case neg =>
    refine ⟨true, ?_⟩
    simp (disch := omega) only [decide_true, decide_false, if_true, if_false, Bool.false_eq_true, Bool.true_eq_false, eq_self, Bool.true_or, Bool.false_or, Bool.true_and, Bool.false_and, Bool.or_true, Bool.or_false, Bool.and_true, Bool.and_false, List.getD_cons_zero, List.getD_cons_succ, cell_int, cell_bool, cell_str, cell_sl, cell_agg, i_int, b_bool, s_str, nb_sl, els_sl, nb_ov, els_ov, cs_pv, cs_agg, Int.toNat_natCast, toNat_sub1, toNat_add1, List.length_map, getD_map, ct, cf, beqd, bned, cp, cn, cnp, cnn, if_pos, if_neg, wrap64, Option.bind_some, Bool.not_true, Bool.not_false, List.isEmpty_nil, List.nil_append, List.length_nil, List.length_cons, Nat.zero_add, rcheck_ok n l hl, hc, ne_eq, not_true_eq_false, rmoment_ok, rright_ok x hx, hm, hr, hs, and_false, not_false_eq_true]
  obtain ⟨j, hj, hj2⟩ := rlook n l (x.cell 0).s hl c2
  rw [g0] at hj2
  have hjr := rjudge_ok n l x now hl c2 hx
  have hput := put_ok n l x hl hx (by omega)
  have hcond : (([] : List D).length + l.length) * 80 ≤ 140737488355328 := by simp; omega
  simp only [hc, hm, hr, hs, ne_eq, not_true_eq_false, if_false, and_self, if_true] 
  unfold rjudgeF at hjr
  rcases hj2 with ⟨k1, k2⟩ | ⟨q, k1, rfl, k2⟩
  · rw [k2] at hjr ⊢
    simp only [] at hjr ⊢
    unfold lookW 
    by_cases h1 : til x < now
    · refine ⟨l.isEmpty && false, ?_⟩
      rw [if_pos h1] at hjr
      simp (disch := omega) only [decide_true, decide_false, if_true, if_false, Bool.false_eq_true, Bool.true_eq_false, eq_self, Bool.true_or, Bool.false_or, Bool.true_and, Bool.false_and, Bool.or_true, Bool.or_false, Bool.and_true, Bool.and_false, List.getD_cons_zero, List.getD_cons_succ, cell_int, cell_bool, cell_str, cell_sl, cell_agg, i_int, b_bool, s_str, nb_sl, els_sl, nb_ov, els_ov, cs_pv, cs_agg, Int.toNat_natCast, toNat_sub1, toNat_add1, List.length_map, getD_map, ct, cf, beqd, bned, cp, cn, cnp, cnn, if_pos, if_neg, wrap64, Option.bind_some, Bool.not_true, Bool.not_false, List.isEmpty_nil, List.nil_append, List.length_nil, List.length_cons, Nat.zero_add, rcheck_ok n l hl, hc, ne_eq, not_true_eq_false, rmoment_ok, rright_ok x hx, hm, hr, hs, hj, hjr, h1, k1, hcond]
    by_cases h2 : now < frm x
    · refine ⟨l.isEmpty && false, ?_⟩
      rw [if_neg h1, if_pos h2] at hjr
      simp (disch := omega) only [decide_true, decide_false, if_true, if_false, Bool.false_eq_true, Bool.true_eq_false, eq_self, Bool.true_or, Bool.false_or, Bool.true_and, Bool.false_and, Bool.or_true, Bool.or_false, Bool.and_true, Bool.and_false, List.getD_cons_zero, List.getD_cons_succ, cell_int, cell_bool, cell_str, cell_sl, cell_agg, i_int, b_bool, s_str, nb_sl, els_sl, nb_ov, els_ov, cs_pv, cs_agg, Int.toNat_natCast, toNat_sub1, toNat_add1, List.length_map, getD_map, ct, cf, beqd, bned, cp, cn, cnp, cnn, if_pos, if_neg, wrap64, Option.bind_some, Bool.not_true, Bool.not_false, List.isEmpty_nil, List.nil_append, List.length_nil, List.length_cons, Nat.zero_add, rcheck_ok n l hl, hc, ne_eq, not_true_eq_false, rmoment_ok, rright_ok x hx, hm, hr, hs, hj, hjr, h1, h2, k1, hcond]
    rw [if_neg h1, if_neg h2] at hjr
    by_cases h3 : l.length = 200
    · refine ⟨true, ?_⟩
      simp (disch := omega) only [decide_true, decide_false, if_true, if_false, Bool.false_eq_true, Bool.true_eq_false, eq_self, Bool.true_or, Bool.false_or, Bool.true_and, Bool.false_and, Bool.or_true, Bool.or_false, Bool.and_true, Bool.and_false, List.getD_cons_zero, List.getD_cons_succ, cell_int, cell_bool, cell_str, cell_sl, cell_agg, i_int, b_bool, s_str, nb_sl, els_sl, nb_ov, els_ov, cs_pv, cs_agg, Int.toNat_natCast, toNat_sub1, toNat_add1, List.length_map, getD_map, ct, cf, beqd, bned, cp, cn, cnp, cnn, if_pos, if_neg, wrap64, Option.bind_some, Bool.not_true, Bool.not_false, List.isEmpty_nil, List.nil_append, List.length_nil, List.length_cons, Nat.zero_add, rcheck_ok n l hl, hc, ne_eq, not_true_eq_false, rmoment_ok, rright_ok x hx, hm, hr, hs, hj, hjr, h1, h2, h3, k1]
    · refine ⟨false, ?_⟩
      have h3' : ¬ ((l.length : Nat) : Int) = 200 := by omega
      simp (disch := omega) only [decide_true, decide_false, if_true, if_false, Bool.false_eq_true, Bool.true_eq_false, eq_self, Bool.true_or, Bool.false_or, Bool.true_and, Bool.false_and, Bool.or_true, Bool.or_false, Bool.and_true, Bool.and_false, List.getD_cons_zero, List.getD_cons_succ, cell_int, cell_bool, cell_str, cell_sl, cell_agg, i_int, b_bool, s_str, nb_sl, els_sl, nb_ov, els_ov, cs_pv, cs_agg, Int.toNat_natCast, toNat_sub1, toNat_add1, List.length_map, getD_map, ct, cf, beqd, bned, cp, cn, cnp, cnn, if_pos, if_neg, wrap64, Option.bind_some, Bool.not_true, Bool.not_false, List.isEmpty_nil, List.nil_append, List.length_nil, List.length_cons, Nat.zero_add, rcheck_ok n l hl, hc, ne_eq, not_true_eq_false, rmoment_ok, rright_ok x hx, hm, hr, hs, hj, hjr, h1, h2, h3, h3', k1, hput]
  · rw [k2] at hjr ⊢
    simp only [] at hjr ⊢
    have hg : l.getD q .undef = l[q] := getD_get k1
    have hc3 := judgeF_cases x l[q]
    generalize l[q] = old at *
    have hq : 0 ≤ (q : Int) ∧ (q : Int) < (l.length : Nat) := by omega
    by_cases h0 : now < seen old
    · refine ⟨true, ?_⟩
      simp (disch := omega) only [decide_true, decide_false, if_true, if_false, Bool.false_eq_true, Bool.true_eq_false, eq_self, Bool.true_or, Bool.false_or, Bool.true_and, Bool.false_and, Bool.or_true, Bool.or_false, Bool.and_true, Bool.and_false, List.getD_cons_zero, List.getD_cons_succ, cell_int, cell_bool, cell_str, cell_sl, cell_agg, i_int, b_bool, s_str, nb_sl, els_sl, nb_ov, els_ov, cs_pv, cs_agg, Int.toNat_natCast, toNat_sub1, toNat_add1, List.length_map, getD_map, ct, cf, beqd, bned, cp, cn, cnp, cnn, if_pos, if_neg, wrap64, Option.bind_some, Bool.not_true, Bool.not_false, List.isEmpty_nil, List.nil_append, List.length_nil, List.length_cons, Nat.zero_add, rcheck_ok n l hl, hc, ne_eq, not_true_eq_false, rmoment_ok, rright_ok x hx, hm, hr, hs, hj, hg, g36, h0]
    simp only [h0, if_false] 
    unfold lookW 
    by_cases h1 : til x < now
    · refine ⟨l.isEmpty && false, ?_⟩
      rw [if_pos h1] at hjr
      simp (disch := omega) only [decide_true, decide_false, if_true, if_false, Bool.false_eq_true, Bool.true_eq_false, eq_self, Bool.true_or, Bool.false_or, Bool.true_and, Bool.false_and, Bool.or_true, Bool.or_false, Bool.and_true, Bool.and_false, List.getD_cons_zero, List.getD_cons_succ, cell_int, cell_bool, cell_str, cell_sl, cell_agg, i_int, b_bool, s_str, nb_sl, els_sl, nb_ov, els_ov, cs_pv, cs_agg, Int.toNat_natCast, toNat_sub1, toNat_add1, List.length_map, getD_map, ct, cf, beqd, bned, cp, cn, cnp, cnn, if_pos, if_neg, wrap64, Option.bind_some, Bool.not_true, Bool.not_false, List.isEmpty_nil, List.nil_append, List.length_nil, List.length_cons, Nat.zero_add, rcheck_ok n l hl, hc, ne_eq, not_true_eq_false, rmoment_ok, rright_ok x hx, hm, hr, hs, hj, hg, g36, h0, hjr, h1, hcond]
    by_cases h2 : now < frm x
    · refine ⟨l.isEmpty && false, ?_⟩
      rw [if_neg h1, if_pos h2] at hjr
      simp (disch := omega) only [decide_true, decide_false, if_true, if_false, Bool.false_eq_true, Bool.true_eq_false, eq_self, Bool.true_or, Bool.false_or, Bool.true_and, Bool.false_and, Bool.or_true, Bool.or_false, Bool.and_true, Bool.and_false, List.getD_cons_zero, List.getD_cons_succ, cell_int, cell_bool, cell_str, cell_sl, cell_agg, i_int, b_bool, s_str, nb_sl, els_sl, nb_ov, els_ov, cs_pv, cs_agg, Int.toNat_natCast, toNat_sub1, toNat_add1, List.length_map, getD_map, ct, cf, beqd, bned, cp, cn, cnp, cnn, if_pos, if_neg, wrap64, Option.bind_some, Bool.not_true, Bool.not_false, List.isEmpty_nil, List.nil_append, List.length_nil, List.length_cons, Nat.zero_add, rcheck_ok n l hl, hc, ne_eq, not_true_eq_false, rmoment_ok, rright_ok x hx, hm, hr, hs, hj, hg, g36, h0, hjr, h1, h2, hcond]
    simp only [h1, h2, if_false] at hjr ⊢
    generalize judgeF x old = j at *
    rcases hc3 with rfl | rfl | rfl | rfl | rfl
    · refine ⟨l.isEmpty && false, ?_⟩
      simp (disch := omega) only [decide_true, decide_false, if_true, if_false, Bool.false_eq_true, Bool.true_eq_false, eq_self, Bool.true_or, Bool.false_or, Bool.true_and, Bool.false_and, Bool.or_true, Bool.or_false, Bool.and_true, Bool.and_false, List.getD_cons_zero, List.getD_cons_succ, cell_int, cell_bool, cell_str, cell_sl, cell_agg, i_int, b_bool, s_str, nb_sl, els_sl, nb_ov, els_ov, cs_pv, cs_agg, Int.toNat_natCast, toNat_sub1, toNat_add1, List.length_map, getD_map, ct, cf, beqd, bned, cp, cn, cnp, cnn, if_pos, if_neg, wrap64, Option.bind_some, Bool.not_true, Bool.not_false, List.isEmpty_nil, List.nil_append, List.length_nil, List.length_cons, Nat.zero_add, rcheck_ok n l hl, hc, ne_eq, not_true_eq_false, rmoment_ok, rright_ok x hx, hm, hr, hs, hj, hg, g36, h0, hjr, hcond, or_self]
    · refine ⟨false, ?_⟩
      simp (disch := omega) only [decide_true, decide_false, if_true, if_false, Bool.false_eq_true, Bool.true_eq_false, eq_self, Bool.true_or, Bool.false_or, Bool.true_and, Bool.false_and, Bool.or_true, Bool.or_false, Bool.and_true, Bool.and_false, List.getD_cons_zero, List.getD_cons_succ, cell_int, cell_bool, cell_str, cell_sl, cell_agg, i_int, b_bool, s_str, nb_sl, els_sl, nb_ov, els_ov, cs_pv, cs_agg, Int.toNat_natCast, toNat_sub1, toNat_add1, List.length_map, getD_map, ct, cf, beqd, bned, cp, cn, cnp, cnn, if_pos, if_neg, wrap64, Option.bind_some, Bool.not_true, Bool.not_false, List.isEmpty_nil, List.nil_append, List.length_nil, List.length_cons, Nat.zero_add, rcheck_ok n l hl, hc, ne_eq, not_true_eq_false, rmoment_ok, rright_ok x hx, hm, hr, hs, hj, hg, g36, h0, hjr, hput, true_or]
    · refine ⟨l.isEmpty && false, ?_⟩
      simp (disch := omega) only [decide_true, decide_false, if_true, if_false, Bool.false_eq_true, Bool.true_eq_false, eq_self, Bool.true_or, Bool.false_or, Bool.true_and, Bool.false_and, Bool.or_true, Bool.or_false, Bool.and_true, Bool.and_false, List.getD_cons_zero, List.getD_cons_succ, cell_int, cell_bool, cell_str, cell_sl, cell_agg, i_int, b_bool, s_str, nb_sl, els_sl, nb_ov, els_ov, cs_pv, cs_agg, Int.toNat_natCast, toNat_sub1, toNat_add1, List.length_map, getD_map, ct, cf, beqd, bned, cp, cn, cnp, cnn, if_pos, if_neg, wrap64, Option.bind_some, Bool.not_true, Bool.not_false, List.isEmpty_nil, List.nil_append, List.length_nil, List.length_cons, Nat.zero_add, rcheck_ok n l hl, hc, ne_eq, not_true_eq_false, rmoment_ok, rright_ok x hx, hm, hr, hs, hj, hg, g36, h0, hjr, hcond, or_self]
    · refine ⟨l.isEmpty && false, ?_⟩
      simp (disch := omega) only [decide_true, decide_false, if_true, if_false, Bool.false_eq_true, Bool.true_eq_false, eq_self, Bool.true_or, Bool.false_or, Bool.true_and, Bool.false_and, Bool.or_true, Bool.or_false, Bool.and_true, Bool.and_false, List.getD_cons_zero, List.getD_cons_succ, cell_int, cell_bool, cell_str, cell_sl, cell_agg, i_int, b_bool, s_str, nb_sl, els_sl, nb_ov, els_ov, cs_pv, cs_agg, Int.toNat_natCast, toNat_sub1, toNat_add1, List.length_map, getD_map, ct, cf, beqd, bned, cp, cn, cnp, cnn, if_pos, if_neg, wrap64, Option.bind_some, Bool.not_true, Bool.not_false, List.isEmpty_nil, List.nil_append, List.length_nil, List.length_cons, Nat.zero_add, rcheck_ok n l hl, hc, ne_eq, not_true_eq_false, rmoment_ok, rright_ok x hx, hm, hr, hs, hj, hg, g36, h0, hjr, hcond, or_self]
    · refine ⟨false, ?_⟩
      simp (disch := omega) only [decide_true, decide_false, if_true, if_false, Bool.false_eq_true, Bool.true_eq_false, eq_self, Bool.true_or, Bool.false_or, Bool.true_and, Bool.false_and, Bool.or_true, Bool.or_false, Bool.and_true, Bool.and_false, List.getD_cons_zero, List.getD_cons_succ, cell_int, cell_bool, cell_str, cell_sl, cell_agg, i_int, b_bool, s_str, nb_sl, els_sl, nb_ov, els_ov, cs_pv, cs_agg, Int.toNat_natCast, toNat_sub1, toNat_add1, List.length_map, getD_map, ct, cf, beqd, bned, cp, cn, cnp, cnn, if_pos, if_neg, wrap64, Option.bind_some, Bool.not_true, Bool.not_false, List.isEmpty_nil, List.nil_append, List.length_nil, List.length_cons, Nat.zero_add, rcheck_ok n l hl, hc, ne_eq, not_true_eq_false, rmoment_ok, rright_ok x hx, hm, hr, hs, hj, hg, g36, h0, hjr, hput, or_true]

end Go.Proofs.Ytmfhhbiaghejjaa.Own
