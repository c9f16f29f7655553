import Derived.Test.YtmfhhbiaghejjaaO
namespace Go.Proofs.Ytmfhhbiaghejjaa.Own
open Go Go.Proofs.Ytmfhhbiaghejjaa.GD
set_option linter.unusedVariables false
set_option linter.unusedSimpArgs false

/-! a record is put into its place -/
theorem at_get {l : List D} {s : List UInt8} (h : atS l s = true) : ∃ h' : lbS l s < l.length, uri l[lbS l s] = s := by
  unfold atS at h
  split at h
  · rename_i d hd
    obtain ⟨h1, h2⟩ := List.getElem?_eq_some_iff.1 hd
    exact ⟨h1, by rw [h2]; simpa using h⟩
  · cases h

theorem at_look {l : List D} {s : List UInt8} (ha : Asc l) (h : atS l s = true) : ∃ h' : lbS l s < l.length, look l s = some l[lbS l s] := by
  obtain ⟨h1, h2⟩ := at_get h
  refine ⟨h1, ?_⟩
  have := look_of_mem ha (List.getElem_mem h1)
  rwa [h2] at this

theorem at_none {l : List D} {s : List UInt8} (ha : Asc l) (h : atS l s = false) : look l s = none := by
  cases e : look l s with
  | none => rfl
  | some d =>
    obtain ⟨h1, h2⟩ := look_mem e
    have := (atS_iff ha).2 ⟨d, h1, h2⟩
    rw [h] at this
    cases this

theorem dropP_id {l : List D} {s : List UInt8} (h : ∀ d, d ∈ l → uri d ≠ s) : dropP l s = l := by
  unfold dropP
  rw [List.filter_eq_self]
  intro d hd
  simp [h d hd]

theorem put_new (x : D) : ∀ {l : List D}, Asc l → atS l (uri x) = false → putF l x = l.take (lbS l (uri x)) ++ [x] ++ l.drop (lbS l (uri x))
  | [], _, _ => rfl
  | d :: t, h, ha => by
    obtain ⟨h1, h2⟩ := List.pairwise_cons.1 h
    rw [putF_cons, lbS]
    by_cases hd : Op.bytesLess (uri d) (uri x) = true
    · rw [if_pos hd, if_pos hd]
      have : atS t (uri x) = false := by
        unfold atS at ha ⊢
        rw [lbS, if_pos hd] at ha
        simpa using ha
      rw [put_new x h2 this]
      rfl
    · rw [if_neg hd, if_neg hd]
      have : dropP (d :: t) (uri x) = d :: t := dropP_id fun y hy e => by
        have := (atS_iff h).2 ⟨y, hy, e⟩
        rw [ha] at this
        cases this
      rw [this]
      rfl

theorem put_old (x : D) : ∀ {l : List D}, Asc l → atS l (uri x) = true → putF l x = l.set (lbS l (uri x)) x
  | [], _, ha => by cases ha
  | d :: t, h, ha => by
    obtain ⟨h1, h2⟩ := List.pairwise_cons.1 h
    rw [putF_cons, lbS]
    by_cases hd : Op.bytesLess (uri d) (uri x) = true
    · rw [if_pos hd, if_pos hd]
      have : atS t (uri x) = true := by
        unfold atS at ha ⊢
        rw [lbS, if_pos hd] at ha
        simpa using ha
      rw [put_old x h2 this]
      rfl
    · rw [if_neg hd, if_neg hd]
      have := drop_at h ha
      rw [lbS, if_neg hd] at this
      rw [this]
      rfl

/-! what a manifest is beside a record -/
def judgeF (x old : D) : Int :=
  if num x < num old then 4 else if num x = num old ∧ cmpt x old = true then 2 else if num x = num old ∨ eqCells (hsh x) (hsh old) = true then 5 else if frm x < frm old then 8 else 3

theorem judgeF_iff (x old : D) : judgeF x old = (bif eqCells (hsh x) (hsh old) then (if num x < num old then 4 else if num x = num old then (bif (frm x == frm old) && (til x == til old) then 2 else 5) else 5) else (if num x < num old then 4 else if num x = num old then 5 else if frm x < frm old then 8 else 3)) := by
  unfold judgeF cmpt
  by_cases h1 : num x < num old
  · cases eqCells (hsh x) (hsh old) <;> simp [h1]
  · by_cases h2 : num x = num old
    · cases eqCells (hsh x) (hsh old) <;> cases ((frm x == frm old) && (til x == til old)) <;> simp [h1, h2]
    · cases eqCells (hsh x) (hsh old) <;> simp [h1, h2]

attribute [local irreducible] num seen frm til hsh uri

theorem judge_ok (x y : D) (hx : Fit x) (hy : Fit y) : Cl ty tab 43 [x, y] = some [.int .u8 (judgeF x y)] := by
  have := s_fresh_judge 0 x y (r := [.int .u8 (judgeF x y)]) ?_
  · rwa [eta_fit hx, eta_fit hy] at this
  rw [judgeF_iff]
  unfold fresh_judge
  simp only [gh, g1, g34, g35]
  cases h3 : eqCells (hsh x) (hsh y) with
  | false =>
    by_cases h1 : num x < num y
    · simp (disch := omega) only [decide_true, decide_false, if_true, if_false, Bool.false_eq_true, Bool.true_eq_false, eq_self, Bool.true_or, Bool.false_or, Bool.true_and, Bool.false_and, Bool.or_true, Bool.or_false, Bool.and_true, Bool.and_false, List.getD_cons_zero, List.getD_cons_succ, cell_int, cell_bool, cell_str, cell_sl, cell_agg, i_int, b_bool, s_str, nb_sl, els_sl, nb_ov, els_ov, cs_pv, cs_agg, Int.toNat_natCast, toNat_sub1, toNat_add1, List.length_map, getD_map, ct, cf, beqd, bned, cp, cn, cnp, cnn, if_pos, if_neg, wrap64, Option.bind_some, Bool.not_true, Bool.not_false, List.isEmpty_nil, List.nil_append, List.length_nil, List.length_cons, Nat.zero_add, h1]
    · by_cases h2 : num x = num y
      · simp (disch := omega) only [decide_true, decide_false, if_true, if_false, Bool.false_eq_true, Bool.true_eq_false, eq_self, Bool.true_or, Bool.false_or, Bool.true_and, Bool.false_and, Bool.or_true, Bool.or_false, Bool.and_true, Bool.and_false, List.getD_cons_zero, List.getD_cons_succ, cell_int, cell_bool, cell_str, cell_sl, cell_agg, i_int, b_bool, s_str, nb_sl, els_sl, nb_ov, els_ov, cs_pv, cs_agg, Int.toNat_natCast, toNat_sub1, toNat_add1, List.length_map, getD_map, ct, cf, beqd, bned, cp, cn, cnp, cnn, if_pos, if_neg, wrap64, Option.bind_some, Bool.not_true, Bool.not_false, List.isEmpty_nil, List.nil_append, List.length_nil, List.length_cons, Nat.zero_add, h1, h2]
      · by_cases h4 : frm x < frm y
        · simp (disch := omega) only [decide_true, decide_false, if_true, if_false, Bool.false_eq_true, Bool.true_eq_false, eq_self, Bool.true_or, Bool.false_or, Bool.true_and, Bool.false_and, Bool.or_true, Bool.or_false, Bool.and_true, Bool.and_false, List.getD_cons_zero, List.getD_cons_succ, cell_int, cell_bool, cell_str, cell_sl, cell_agg, i_int, b_bool, s_str, nb_sl, els_sl, nb_ov, els_ov, cs_pv, cs_agg, Int.toNat_natCast, toNat_sub1, toNat_add1, List.length_map, getD_map, ct, cf, beqd, bned, cp, cn, cnp, cnn, if_pos, if_neg, wrap64, Option.bind_some, Bool.not_true, Bool.not_false, List.isEmpty_nil, List.nil_append, List.length_nil, List.length_cons, Nat.zero_add, h1, h2, h4]
        · simp (disch := omega) only [decide_true, decide_false, if_true, if_false, Bool.false_eq_true, Bool.true_eq_false, eq_self, Bool.true_or, Bool.false_or, Bool.true_and, Bool.false_and, Bool.or_true, Bool.or_false, Bool.and_true, Bool.and_false, List.getD_cons_zero, List.getD_cons_succ, cell_int, cell_bool, cell_str, cell_sl, cell_agg, i_int, b_bool, s_str, nb_sl, els_sl, nb_ov, els_ov, cs_pv, cs_agg, Int.toNat_natCast, toNat_sub1, toNat_add1, List.length_map, getD_map, ct, cf, beqd, bned, cp, cn, cnp, cnn, if_pos, if_neg, wrap64, Option.bind_some, Bool.not_true, Bool.not_false, List.isEmpty_nil, List.nil_append, List.length_nil, List.length_cons, Nat.zero_add, h1, h2, h4]
  | true =>
    by_cases h1 : num x < num y
    · simp (disch := omega) only [decide_true, decide_false, if_true, if_false, Bool.false_eq_true, Bool.true_eq_false, eq_self, Bool.true_or, Bool.false_or, Bool.true_and, Bool.false_and, Bool.or_true, Bool.or_false, Bool.and_true, Bool.and_false, List.getD_cons_zero, List.getD_cons_succ, cell_int, cell_bool, cell_str, cell_sl, cell_agg, i_int, b_bool, s_str, nb_sl, els_sl, nb_ov, els_ov, cs_pv, cs_agg, Int.toNat_natCast, toNat_sub1, toNat_add1, List.length_map, getD_map, ct, cf, beqd, bned, cp, cn, cnp, cnn, if_pos, if_neg, wrap64, Option.bind_some, Bool.not_true, Bool.not_false, List.isEmpty_nil, List.nil_append, List.length_nil, List.length_cons, Nat.zero_add, h1]
    · by_cases h2 : num x = num y
      · cases h4 : ((frm x == frm y) && (til x == til y)) with
        | false =>
          have hb : (decide (frm x = frm y) && decide (til x = til y)) = false := h4
          simp (disch := omega) only [decide_true, decide_false, if_true, if_false, Bool.false_eq_true, Bool.true_eq_false, eq_self, Bool.true_or, Bool.false_or, Bool.true_and, Bool.false_and, Bool.or_true, Bool.or_false, Bool.and_true, Bool.and_false, List.getD_cons_zero, List.getD_cons_succ, cell_int, cell_bool, cell_str, cell_sl, cell_agg, i_int, b_bool, s_str, nb_sl, els_sl, nb_ov, els_ov, cs_pv, cs_agg, Int.toNat_natCast, toNat_sub1, toNat_add1, List.length_map, getD_map, ct, cf, beqd, bned, cp, cn, cnp, cnn, if_pos, if_neg, wrap64, Option.bind_some, Bool.not_true, Bool.not_false, List.isEmpty_nil, List.nil_append, List.length_nil, List.length_cons, Nat.zero_add, h1, h2, hb]
        | true =>
          have hb : (decide (frm x = frm y) && decide (til x = til y)) = true := h4
          simp (disch := omega) only [decide_true, decide_false, if_true, if_false, Bool.false_eq_true, Bool.true_eq_false, eq_self, Bool.true_or, Bool.false_or, Bool.true_and, Bool.false_and, Bool.or_true, Bool.or_false, Bool.and_true, Bool.and_false, List.getD_cons_zero, List.getD_cons_succ, cell_int, cell_bool, cell_str, cell_sl, cell_agg, i_int, b_bool, s_str, nb_sl, els_sl, nb_ov, els_ov, cs_pv, cs_agg, Int.toNat_natCast, toNat_sub1, toNat_add1, List.length_map, getD_map, ct, cf, beqd, bned, cp, cn, cnp, cnn, if_pos, if_neg, wrap64, Option.bind_some, Bool.not_true, Bool.not_false, List.isEmpty_nil, List.nil_append, List.length_nil, List.length_cons, Nat.zero_add, h1, h2, hb]
      · simp (disch := omega) only [decide_true, decide_false, if_true, if_false, Bool.false_eq_true, Bool.true_eq_false, eq_self, Bool.true_or, Bool.false_or, Bool.true_and, Bool.false_and, Bool.or_true, Bool.or_false, Bool.and_true, Bool.and_false, List.getD_cons_zero, List.getD_cons_succ, cell_int, cell_bool, cell_str, cell_sl, cell_agg, i_int, b_bool, s_str, nb_sl, els_sl, nb_ov, els_ov, cs_pv, cs_agg, Int.toNat_natCast, toNat_sub1, toNat_add1, List.length_map, getD_map, ct, cf, beqd, bned, cp, cn, cnp, cnn, if_pos, if_neg, wrap64, Option.bind_some, Bool.not_true, Bool.not_false, List.isEmpty_nil, List.nil_append, List.length_nil, List.length_cons, Nat.zero_add, h1, h2]

def rjudgeF (l : List D) (x : D) (now : Int) : Int :=
  if til x < now then 6 else if now < frm x then 7 else match look l (uri x) with | none => 1 | some old => judgeF x old

theorem rjudge_ok (n : Bool) (l : List D) (x : D) (now : Int) (hl : Fine l) (ha : Asc l) (hx : Fit x) : Cl ty tab 44 [.sl 47 n l, x, .int .i64 now] = some [.int .u8 (rjudgeF l x now)] := by
  have := s_gatepathref29_judge 0 n l x now (r := [.int .u8 (rjudgeF l x now)]) ?_
  · rwa [eta_fit hx] at this
  obtain ⟨j, hj, hj2⟩ := rlook n l (x.cell 0).s hl ha
  unfold gatepathref29_judge rjudgeF
  simp only [gh, g1, g34, g35]
  rw [g0] at hj2
  by_cases h1 : til x < now
  · simp (disch := omega) only [decide_true, decide_false, if_true, if_false, Bool.false_eq_true, Bool.true_eq_false, eq_self, Bool.true_or, Bool.false_or, Bool.true_and, Bool.false_and, Bool.or_true, Bool.or_false, Bool.and_true, Bool.and_false, List.getD_cons_zero, List.getD_cons_succ, cell_int, cell_bool, cell_str, cell_sl, cell_agg, i_int, b_bool, s_str, nb_sl, els_sl, nb_ov, els_ov, cs_pv, cs_agg, Int.toNat_natCast, toNat_sub1, toNat_add1, List.length_map, getD_map, ct, cf, beqd, bned, cp, cn, cnp, cnn, if_pos, if_neg, wrap64, Option.bind_some, Bool.not_true, Bool.not_false, List.isEmpty_nil, List.nil_append, List.length_nil, List.length_cons, Nat.zero_add, hj, h1]
  by_cases h2 : now < frm x
  · simp (disch := omega) only [decide_true, decide_false, if_true, if_false, Bool.false_eq_true, Bool.true_eq_false, eq_self, Bool.true_or, Bool.false_or, Bool.true_and, Bool.false_and, Bool.or_true, Bool.or_false, Bool.and_true, Bool.and_false, List.getD_cons_zero, List.getD_cons_succ, cell_int, cell_bool, cell_str, cell_sl, cell_agg, i_int, b_bool, s_str, nb_sl, els_sl, nb_ov, els_ov, cs_pv, cs_agg, Int.toNat_natCast, toNat_sub1, toNat_add1, List.length_map, getD_map, ct, cf, beqd, bned, cp, cn, cnp, cnn, if_pos, if_neg, wrap64, Option.bind_some, Bool.not_true, Bool.not_false, List.isEmpty_nil, List.nil_append, List.length_nil, List.length_cons, Nat.zero_add, hj, h1, h2]
  rcases hj2 with ⟨k1, k2⟩ | ⟨q, k1, rfl, k2⟩
  · rw [k2]
    simp (disch := omega) only [decide_true, decide_false, if_true, if_false, Bool.false_eq_true, Bool.true_eq_false, eq_self, Bool.true_or, Bool.false_or, Bool.true_and, Bool.false_and, Bool.or_true, Bool.or_false, Bool.and_true, Bool.and_false, List.getD_cons_zero, List.getD_cons_succ, cell_int, cell_bool, cell_str, cell_sl, cell_agg, i_int, b_bool, s_str, nb_sl, els_sl, nb_ov, els_ov, cs_pv, cs_agg, Int.toNat_natCast, toNat_sub1, toNat_add1, List.length_map, getD_map, ct, cf, beqd, bned, cp, cn, cnp, cnn, if_pos, if_neg, wrap64, Option.bind_some, Bool.not_true, Bool.not_false, List.isEmpty_nil, List.nil_append, List.length_nil, List.length_cons, Nat.zero_add, hj, h1, h2, k1]
  · rw [k2]
    simp only []
    rw [judgeF_iff]
    generalize hd : l[q] = d at *
    have hg : l.getD q .undef = d := by rw [getD_get k1, hd]
    have hq : (q : Int) < (l.length : Nat) := by omega
    clear hl ha hx hd k2
    cases h3 : eqCells (hsh x) (hsh d) with
    | false =>
      by_cases h4 : num x < num d
      · simp (disch := omega) only [decide_true, decide_false, if_true, if_false, Bool.false_eq_true, Bool.true_eq_false, eq_self, Bool.true_or, Bool.false_or, Bool.true_and, Bool.false_and, Bool.or_true, Bool.or_false, Bool.and_true, Bool.and_false, List.getD_cons_zero, List.getD_cons_succ, cell_int, cell_bool, cell_str, cell_sl, cell_agg, i_int, b_bool, s_str, nb_sl, els_sl, nb_ov, els_ov, cs_pv, cs_agg, Int.toNat_natCast, toNat_sub1, toNat_add1, List.length_map, getD_map, ct, cf, beqd, bned, cp, cn, cnp, cnn, if_pos, if_neg, wrap64, Option.bind_some, Bool.not_true, Bool.not_false, List.isEmpty_nil, List.nil_append, List.length_nil, List.length_cons, Nat.zero_add, hj, h1, h2, hg, h4]
      · by_cases h5 : num x = num d
        · simp (disch := omega) only [decide_true, decide_false, if_true, if_false, Bool.false_eq_true, Bool.true_eq_false, eq_self, Bool.true_or, Bool.false_or, Bool.true_and, Bool.false_and, Bool.or_true, Bool.or_false, Bool.and_true, Bool.and_false, List.getD_cons_zero, List.getD_cons_succ, cell_int, cell_bool, cell_str, cell_sl, cell_agg, i_int, b_bool, s_str, nb_sl, els_sl, nb_ov, els_ov, cs_pv, cs_agg, Int.toNat_natCast, toNat_sub1, toNat_add1, List.length_map, getD_map, ct, cf, beqd, bned, cp, cn, cnp, cnn, if_pos, if_neg, wrap64, Option.bind_some, Bool.not_true, Bool.not_false, List.isEmpty_nil, List.nil_append, List.length_nil, List.length_cons, Nat.zero_add, hj, h1, h2, hg, h4, h5, gh, h3]
        · by_cases h6 : frm x < frm d
          · simp (disch := omega) only [decide_true, decide_false, if_true, if_false, Bool.false_eq_true, Bool.true_eq_false, eq_self, Bool.true_or, Bool.false_or, Bool.true_and, Bool.false_and, Bool.or_true, Bool.or_false, Bool.and_true, Bool.and_false, List.getD_cons_zero, List.getD_cons_succ, cell_int, cell_bool, cell_str, cell_sl, cell_agg, i_int, b_bool, s_str, nb_sl, els_sl, nb_ov, els_ov, cs_pv, cs_agg, Int.toNat_natCast, toNat_sub1, toNat_add1, List.length_map, getD_map, ct, cf, beqd, bned, cp, cn, cnp, cnn, if_pos, if_neg, wrap64, Option.bind_some, Bool.not_true, Bool.not_false, List.isEmpty_nil, List.nil_append, List.length_nil, List.length_cons, Nat.zero_add, hj, h1, h2, hg, h4, h5, gh, h3, h6]
          · simp (disch := omega) only [decide_true, decide_false, if_true, if_false, Bool.false_eq_true, Bool.true_eq_false, eq_self, Bool.true_or, Bool.false_or, Bool.true_and, Bool.false_and, Bool.or_true, Bool.or_false, Bool.and_true, Bool.and_false, List.getD_cons_zero, List.getD_cons_succ, cell_int, cell_bool, cell_str, cell_sl, cell_agg, i_int, b_bool, s_str, nb_sl, els_sl, nb_ov, els_ov, cs_pv, cs_agg, Int.toNat_natCast, toNat_sub1, toNat_add1, List.length_map, getD_map, ct, cf, beqd, bned, cp, cn, cnp, cnn, if_pos, if_neg, wrap64, Option.bind_some, Bool.not_true, Bool.not_false, List.isEmpty_nil, List.nil_append, List.length_nil, List.length_cons, Nat.zero_add, hj, h1, h2, hg, h4, h5, gh, h3, h6]
    | true =>
      by_cases h4 : num x < num d
      · simp (disch := omega) only [decide_true, decide_false, if_true, if_false, Bool.false_eq_true, Bool.true_eq_false, eq_self, Bool.true_or, Bool.false_or, Bool.true_and, Bool.false_and, Bool.or_true, Bool.or_false, Bool.and_true, Bool.and_false, List.getD_cons_zero, List.getD_cons_succ, cell_int, cell_bool, cell_str, cell_sl, cell_agg, i_int, b_bool, s_str, nb_sl, els_sl, nb_ov, els_ov, cs_pv, cs_agg, Int.toNat_natCast, toNat_sub1, toNat_add1, List.length_map, getD_map, ct, cf, beqd, bned, cp, cn, cnp, cnn, if_pos, if_neg, wrap64, Option.bind_some, Bool.not_true, Bool.not_false, List.isEmpty_nil, List.nil_append, List.length_nil, List.length_cons, Nat.zero_add, hj, h1, h2, hg, h4]
      · by_cases h5 : num x = num d
        · cases h6 : ((frm x == frm d) && (til x == til d)) with
          | false =>
            have hb : (decide (frm x = frm d) && decide (til x = til d)) = false := h6
            simp (disch := omega) only [decide_true, decide_false, if_true, if_false, Bool.false_eq_true, Bool.true_eq_false, eq_self, Bool.true_or, Bool.false_or, Bool.true_and, Bool.false_and, Bool.or_true, Bool.or_false, Bool.and_true, Bool.and_false, List.getD_cons_zero, List.getD_cons_succ, cell_int, cell_bool, cell_str, cell_sl, cell_agg, i_int, b_bool, s_str, nb_sl, els_sl, nb_ov, els_ov, cs_pv, cs_agg, Int.toNat_natCast, toNat_sub1, toNat_add1, List.length_map, getD_map, ct, cf, beqd, bned, cp, cn, cnp, cnn, if_pos, if_neg, wrap64, Option.bind_some, Bool.not_true, Bool.not_false, List.isEmpty_nil, List.nil_append, List.length_nil, List.length_cons, Nat.zero_add, hj, h1, h2, hg, h4, h5, gh, h3, hb]
          | true =>
            have hb : (decide (frm x = frm d) && decide (til x = til d)) = true := h6
            simp (disch := omega) only [decide_true, decide_false, if_true, if_false, Bool.false_eq_true, Bool.true_eq_false, eq_self, Bool.true_or, Bool.false_or, Bool.true_and, Bool.false_and, Bool.or_true, Bool.or_false, Bool.and_true, Bool.and_false, List.getD_cons_zero, List.getD_cons_succ, cell_int, cell_bool, cell_str, cell_sl, cell_agg, i_int, b_bool, s_str, nb_sl, els_sl, nb_ov, els_ov, cs_pv, cs_agg, Int.toNat_natCast, toNat_sub1, toNat_add1, List.length_map, getD_map, ct, cf, beqd, bned, cp, cn, cnp, cnn, if_pos, if_neg, wrap64, Option.bind_some, Bool.not_true, Bool.not_false, List.isEmpty_nil, List.nil_append, List.length_nil, List.length_cons, Nat.zero_add, hj, h1, h2, hg, h4, h5, gh, h3, hb]
        · simp (disch := omega) only [decide_true, decide_false, if_true, if_false, Bool.false_eq_true, Bool.true_eq_false, eq_self, Bool.true_or, Bool.false_or, Bool.true_and, Bool.false_and, Bool.or_true, Bool.or_false, Bool.and_true, Bool.and_false, List.getD_cons_zero, List.getD_cons_succ, cell_int, cell_bool, cell_str, cell_sl, cell_agg, i_int, b_bool, s_str, nb_sl, els_sl, nb_ov, els_ov, cs_pv, cs_agg, Int.toNat_natCast, toNat_sub1, toNat_add1, List.length_map, getD_map, ct, cf, beqd, bned, cp, cn, cnp, cnn, if_pos, if_neg, wrap64, Option.bind_some, Bool.not_true, Bool.not_false, List.isEmpty_nil, List.nil_append, List.length_nil, List.length_cons, Nat.zero_add, hj, h1, h2, hg, h4, h5, gh, h3]

end Go.Proofs.Ytmfhhbiaghejjaa.Own
