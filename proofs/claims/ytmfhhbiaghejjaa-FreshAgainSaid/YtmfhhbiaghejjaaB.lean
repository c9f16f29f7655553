import Derived.Test.YtmfhhbiaghejjaaA
namespace Go.Proofs.Ytmfhhbiaghejjaa.Own
open Go Go.Proofs.Ytmfhhbiaghejjaa.GD
set_option linter.unusedVariables false
set_option linter.unusedSimpArgs false

def Asc (l : List D) : Prop := l.Pairwise fun x y => Op.bytesLess (uri x) (uri y) = true

theorem goodF_some : ∀ {l : List D} {u : List UInt8}, goodF (some u) l = true → (∀ d, d ∈ l → Op.bytesLess u (uri d) = true) ∧ Asc l ∧ ∀ d, d ∈ l → rightF d = true
  | [], u, _ => ⟨fun d h => (by cases h), List.Pairwise.nil, fun d h => (by cases h)⟩
  | x :: l, u, h => by
    simp only [goodF, Bool.and_eq_true] at h
    obtain ⟨⟨h1, h2⟩, h3⟩ := h
    obtain ⟨g1, g2, g3⟩ := goodF_some h3
    refine ⟨fun d hd => ?_, List.Pairwise.cons (fun d hd => g1 d hd) g2, fun d hd => ?_⟩
    · rcases List.mem_cons.1 hd with rfl | hd
      · exact h2
      · exact bl_trans h2 (g1 d hd)
    · rcases List.mem_cons.1 hd with rfl | hd
      · exact h1
      · exact g3 d hd

theorem goodF_none {l : List D} (h : goodF none l = true) : Asc l ∧ ∀ d, d ∈ l → rightF d = true := by
  cases l with
  | nil => exact ⟨List.Pairwise.nil, fun d h => by cases h⟩
  | cons x l =>
    simp only [goodF, Bool.and_eq_true] at h
    obtain ⟨⟨h1, _⟩, h3⟩ := h
    obtain ⟨g1, g2, g3⟩ := goodF_some h3
    refine ⟨List.Pairwise.cons (fun d hd => g1 d hd) g2, fun d hd => ?_⟩
    rcases List.mem_cons.1 hd with rfl | hd
    · exact h1
    · exact g3 d hd

theorem check_zero {l : List D} (h : checkF l = 0) : l.length ≤ 200 ∧ Asc l ∧ ∀ d, d ∈ l → rightF d = true := by
  unfold checkF at h
  split at h
  · cases h
  · split at h
    · rename_i h1 h2
      exact ⟨by omega, goodF_none h2⟩
    · cases h

theorem right_moms {d : D} (h : rightF d = true) : (0 ≤ seen d ∧ seen d ≤ 1099511627776) ∧ (0 ≤ til d ∧ til d ≤ 1099511627776) ∧ frm d ≤ til d ∧ 0 ≤ frm d := by
  unfold rightF mom at h
  simp only [Bool.and_eq_true, decide_eq_true_eq] at h
  omega

/-! late points -/
def lateF (now pat : Int) (d : D) : Bool := decide (til d < now) || decide (pat < now - seen d)
def lateL (now pat : Int) (l : List D) : List D := (l.filter (lateF now pat)).map fun d => D.str (d.cell 0).s
def lateR (l : List D) (now pat : Int) : List D :=
  if checkF l ≠ 0 then [.ov 9 true [], .int .i64 (checkF l)] else if (mom now && mom pat) = true then [.ov 9 (lateL now pat l).isEmpty (lateL now pat l), .int .i64 0] else [.ov 9 true [], .int .i64 2]

theorem lateL_snoc (now pat : Int) (l : List D) (d : D) : lateL now pat (l ++ [d]) = if lateF now pat d = true then lateL now pat l ++ [D.str (d.cell 0).s] else lateL now pat l := by
  unfold lateL
  rw [List.filter_append, List.map_append]
  cases h : lateF now pat d <;> simp [h]

theorem lateL_len (now pat : Int) (l : List D) : (lateL now pat l).length ≤ l.length := by
  unfold lateL
  rw [List.length_map]
  exact List.length_filter_le ..

theorem late1_ok (d : D) (now pat : Int) (hd : Fit d) (hr : rightF d = true) (hn : mom now = true) : Cl ty tab 36 [d, .rp [.int .i64 now] 0, .rp [.int .i64 pat] 0] = some [.bool (lateF now pat d)] := by
  have := s_fresh_Late_1 0 d now pat (r := [.bool (lateF now pat d)]) ?_
  · rwa [eta_fit hd] at this
  have h1 := right_moms hr
  unfold mom at hn
  rw [decide_eq_true_eq] at hn
  have e1 : (d.cell 35).i = til d := rfl
  have e2 : (d.cell 36).i = seen d := rfl
  unfold fresh_Late_1 lateF
  rw [e1, e2]
  by_cases h2 : til d < now
  · simp (disch := omega) only [decide_true, decide_false, if_true, if_false, Bool.false_eq_true, Bool.true_eq_false, eq_self, Bool.true_or, Bool.false_or, Bool.true_and, Bool.false_and, Bool.or_true, Bool.or_false, Bool.and_true, Bool.and_false, List.getD_cons_zero, List.getD_cons_succ, cell_int, cell_bool, cell_str, cell_sl, cell_agg, i_int, b_bool, s_str, nb_sl, els_sl, nb_ov, els_ov, cs_pv, cs_agg, Int.toNat_natCast, toNat_sub1, toNat_add1, List.length_map, getD_map, ct, cf, beqd, bned, cp, cn, cnp, cnn, if_pos, if_neg, wrap64, Option.bind_some, Bool.not_true, Bool.not_false, List.isEmpty_nil, List.nil_append, List.length_nil, List.length_cons, Nat.zero_add, dT]
  · simp (disch := omega) only [decide_true, decide_false, if_true, if_false, Bool.false_eq_true, Bool.true_eq_false, eq_self, Bool.true_or, Bool.false_or, Bool.true_and, Bool.false_and, Bool.or_true, Bool.or_false, Bool.and_true, Bool.and_false, List.getD_cons_zero, List.getD_cons_succ, cell_int, cell_bool, cell_str, cell_sl, cell_agg, i_int, b_bool, s_str, nb_sl, els_sl, nb_ov, els_ov, cs_pv, cs_agg, Int.toNat_natCast, toNat_sub1, toNat_add1, List.length_map, getD_map, ct, cf, beqd, bned, cp, cn, cnp, cnn, if_pos, if_neg, wrap64, Option.bind_some, Bool.not_true, Bool.not_false, List.isEmpty_nil, List.nil_append, List.length_nil, List.length_cons, Nat.zero_add, dF]

theorem late_ok (n : Bool) (l : List D) (now pat : Int) (hl : Fine l) : Cl ty tab 15 [.sl 47 n l, .int .i64 now, .int .i64 pat] = some (lateR l now pat) := by
  obtain ⟨k, hk⟩ := rounds
  refine s_fresh_Late k _ _ _ _ ?_
  unfold fresh_Late lateR
  by_cases hc : checkF l = 0
  case neg => simp (disch := omega) only [decide_true, decide_false, if_true, if_false, Bool.false_eq_true, Bool.true_eq_false, eq_self, Bool.true_or, Bool.false_or, Bool.true_and, Bool.false_and, Bool.or_true, Bool.or_false, Bool.and_true, Bool.and_false, List.getD_cons_zero, List.getD_cons_succ, cell_int, cell_bool, cell_str, cell_sl, cell_agg, i_int, b_bool, s_str, nb_sl, els_sl, nb_ov, els_ov, cs_pv, cs_agg, Int.toNat_natCast, toNat_sub1, toNat_add1, List.length_map, getD_map, ct, cf, beqd, bned, cp, cn, cnp, cnn, if_pos, if_neg, wrap64, Option.bind_some, Bool.not_true, Bool.not_false, List.isEmpty_nil, List.nil_append, List.length_nil, List.length_cons, Nat.zero_add, check_ok n l hl, hc, ne_eq, not_false_eq_true]
  obtain ⟨c1, c2, c3⟩ := check_zero hc
  cases hn : mom now
  · simp (disch := omega) only [decide_true, decide_false, if_true, if_false, Bool.false_eq_true, Bool.true_eq_false, eq_self, Bool.true_or, Bool.false_or, Bool.true_and, Bool.false_and, Bool.or_true, Bool.or_false, Bool.and_true, Bool.and_false, List.getD_cons_zero, List.getD_cons_succ, cell_int, cell_bool, cell_str, cell_sl, cell_agg, i_int, b_bool, s_str, nb_sl, els_sl, nb_ov, els_ov, cs_pv, cs_agg, Int.toNat_natCast, toNat_sub1, toNat_add1, List.length_map, getD_map, ct, cf, beqd, bned, cp, cn, cnp, cnn, if_pos, if_neg, wrap64, Option.bind_some, Bool.not_true, Bool.not_false, List.isEmpty_nil, List.nil_append, List.length_nil, List.length_cons, Nat.zero_add, check_ok n l hl, hc, ne_eq, not_true_eq_false, moment_ok, hn]
  cases hp : mom pat
  · simp (disch := omega) only [decide_true, decide_false, if_true, if_false, Bool.false_eq_true, Bool.true_eq_false, eq_self, Bool.true_or, Bool.false_or, Bool.true_and, Bool.false_and, Bool.or_true, Bool.or_false, Bool.and_true, Bool.and_false, List.getD_cons_zero, List.getD_cons_succ, cell_int, cell_bool, cell_str, cell_sl, cell_agg, i_int, b_bool, s_str, nb_sl, els_sl, nb_ov, els_ov, cs_pv, cs_agg, Int.toNat_natCast, toNat_sub1, toNat_add1, List.length_map, getD_map, ct, cf, beqd, bned, cp, cn, cnp, cnn, if_pos, if_neg, wrap64, Option.bind_some, Bool.not_true, Bool.not_false, List.isEmpty_nil, List.nil_append, List.length_nil, List.length_cons, Nat.zero_add, check_ok n l hl, hc, ne_eq, not_true_eq_false, moment_ok, hn, hp]
  simp (disch := omega) only [decide_true, decide_false, if_true, if_false, Bool.false_eq_true, Bool.true_eq_false, eq_self, Bool.true_or, Bool.false_or, Bool.true_and, Bool.false_and, Bool.or_true, Bool.or_false, Bool.and_true, Bool.and_false, List.getD_cons_zero, List.getD_cons_succ, cell_int, cell_bool, cell_str, cell_sl, cell_agg, i_int, b_bool, s_str, nb_sl, els_sl, nb_ov, els_ov, cs_pv, cs_agg, Int.toNat_natCast, toNat_sub1, toNat_add1, List.length_map, getD_map, ct, cf, beqd, bned, cp, cn, cnp, cnn, if_pos, if_neg, wrap64, Option.bind_some, Bool.not_true, Bool.not_false, List.isEmpty_nil, List.nil_append, List.length_nil, List.length_cons, Nat.zero_add, check_ok n l hl, hc, ne_eq, not_true_eq_false, moment_ok, hn, hp]
  have := iter_ix (F := fresh_Late.b0 (Cl ty tab) k l now pat) l.length (fun i => [.ov 9 (lateL now pat (l.take i)).isEmpty (lateL now pat (l.take i)), .int .i64 i]) (fun _ => some [.ov 9 (lateL now pat l).isEmpty (lateL now pat l), .int .i64 0]) (fun i hi again ha => ?_) (fun again => ?_) k (by omega) 0 (by omega)
  · exact this
  · have hm := List.getElem_mem hi
    have h1 := late1_ok l[i] now pat (hl.fit _ hm) (c3 _ hm) hn
    have h2 := lateL_len now pat (l.take i)
    rw [List.length_take] at h2
    unfold fresh_Late.b0
    rw [List.take_add_one, List.getElem?_eq_getElem hi, Option.toList_some, lateL_snoc] at ha
    simp (disch := omega) only [decide_true, decide_false, if_true, if_false, Bool.false_eq_true, Bool.true_eq_false, eq_self, Bool.true_or, Bool.false_or, Bool.true_and, Bool.false_and, Bool.or_true, Bool.or_false, Bool.and_true, Bool.and_false, List.getD_cons_zero, List.getD_cons_succ, cell_int, cell_bool, cell_str, cell_sl, cell_agg, i_int, b_bool, s_str, nb_sl, els_sl, nb_ov, els_ov, cs_pv, cs_agg, Int.toNat_natCast, toNat_sub1, toNat_add1, List.length_map, getD_map, ct, cf, beqd, bned, cp, cn, cnp, cnn, if_pos, if_neg, wrap64, Option.bind_some, Bool.not_true, Bool.not_false, List.isEmpty_nil, List.nil_append, List.length_nil, List.length_cons, Nat.zero_add, getD_get, hl.eta hi, h1]
    cases h3 : lateF now pat l[i]
    · rw [h3] at ha
      simp (disch := omega) only [decide_true, decide_false, if_true, if_false, Bool.false_eq_true, Bool.true_eq_false, eq_self, Bool.true_or, Bool.false_or, Bool.true_and, Bool.false_and, Bool.or_true, Bool.or_false, Bool.and_true, Bool.and_false, List.getD_cons_zero, List.getD_cons_succ, cell_int, cell_bool, cell_str, cell_sl, cell_agg, i_int, b_bool, s_str, nb_sl, els_sl, nb_ov, els_ov, cs_pv, cs_agg, Int.toNat_natCast, toNat_sub1, toNat_add1, List.length_map, getD_map, ct, cf, beqd, bned, cp, cn, cnp, cnn, if_pos, if_neg, wrap64, Option.bind_some, Bool.not_true, Bool.not_false, List.isEmpty_nil, List.nil_append, List.length_nil, List.length_cons, Nat.zero_add, Int.natCast_add, Int.natCast_one] at ha ⊢
      exact ha
    · rw [h3] at ha
      have e : (lateL now pat (l.take i) ++ [D.str (l[i].cell 0).s]).isEmpty = false := by simp
      simp (disch := omega) only [decide_true, decide_false, if_true, if_false, Bool.false_eq_true, Bool.true_eq_false, eq_self, Bool.true_or, Bool.false_or, Bool.true_and, Bool.false_and, Bool.or_true, Bool.or_false, Bool.and_true, Bool.and_false, List.getD_cons_zero, List.getD_cons_succ, cell_int, cell_bool, cell_str, cell_sl, cell_agg, i_int, b_bool, s_str, nb_sl, els_sl, nb_ov, els_ov, cs_pv, cs_agg, Int.toNat_natCast, toNat_sub1, toNat_add1, List.length_map, getD_map, ct, cf, beqd, bned, cp, cn, cnp, cnn, if_pos, if_neg, wrap64, Option.bind_some, Bool.not_true, Bool.not_false, List.isEmpty_nil, List.nil_append, List.length_nil, List.length_cons, Nat.zero_add, Int.natCast_add, Int.natCast_one, e] at ha ⊢
      exact ha
  · unfold fresh_Late.b0
    simp (disch := omega) only [decide_true, decide_false, if_true, if_false, Bool.false_eq_true, Bool.true_eq_false, eq_self, Bool.true_or, Bool.false_or, Bool.true_and, Bool.false_and, Bool.or_true, Bool.or_false, Bool.and_true, Bool.and_false, List.getD_cons_zero, List.getD_cons_succ, cell_int, cell_bool, cell_str, cell_sl, cell_agg, i_int, b_bool, s_str, nb_sl, els_sl, nb_ov, els_ov, cs_pv, cs_agg, Int.toNat_natCast, toNat_sub1, toNat_add1, List.length_map, getD_map, ct, cf, beqd, bned, cp, cn, cnp, cnn, if_pos, if_neg, wrap64, Option.bind_some, Bool.not_true, Bool.not_false, List.isEmpty_nil, List.nil_append, List.length_nil, List.length_cons, Nat.zero_add, List.take_length]

theorem rlate_ok (n : Bool) (l : List D) (now pat : Int) (hl : Fine l) : Cl ty tab 16 [.sl 47 n l, .int .i64 now, .int .i64 pat] = some (lateR l now pat) := by
  obtain ⟨k, hk⟩ := rounds
  refine s_gatepathref29_Late k _ _ _ _ ?_
  unfold gatepathref29_Late lateR
  by_cases hc : checkF l = 0
  case neg => simp (disch := omega) only [decide_true, decide_false, if_true, if_false, Bool.false_eq_true, Bool.true_eq_false, eq_self, Bool.true_or, Bool.false_or, Bool.true_and, Bool.false_and, Bool.or_true, Bool.or_false, Bool.and_true, Bool.and_false, List.getD_cons_zero, List.getD_cons_succ, cell_int, cell_bool, cell_str, cell_sl, cell_agg, i_int, b_bool, s_str, nb_sl, els_sl, nb_ov, els_ov, cs_pv, cs_agg, Int.toNat_natCast, toNat_sub1, toNat_add1, List.length_map, getD_map, ct, cf, beqd, bned, cp, cn, cnp, cnn, if_pos, if_neg, wrap64, Option.bind_some, Bool.not_true, Bool.not_false, List.isEmpty_nil, List.nil_append, List.length_nil, List.length_cons, Nat.zero_add, rcheck_ok n l hl, hc, ne_eq, not_false_eq_true]
  obtain ⟨c1, c2, c3⟩ := check_zero hc
  cases hn : mom now
  · simp (disch := omega) only [decide_true, decide_false, if_true, if_false, Bool.false_eq_true, Bool.true_eq_false, eq_self, Bool.true_or, Bool.false_or, Bool.true_and, Bool.false_and, Bool.or_true, Bool.or_false, Bool.and_true, Bool.and_false, List.getD_cons_zero, List.getD_cons_succ, cell_int, cell_bool, cell_str, cell_sl, cell_agg, i_int, b_bool, s_str, nb_sl, els_sl, nb_ov, els_ov, cs_pv, cs_agg, Int.toNat_natCast, toNat_sub1, toNat_add1, List.length_map, getD_map, ct, cf, beqd, bned, cp, cn, cnp, cnn, if_pos, if_neg, wrap64, Option.bind_some, Bool.not_true, Bool.not_false, List.isEmpty_nil, List.nil_append, List.length_nil, List.length_cons, Nat.zero_add, rcheck_ok n l hl, hc, ne_eq, not_true_eq_false, rmoment_ok, hn]
  cases hp : mom pat
  · simp (disch := omega) only [decide_true, decide_false, if_true, if_false, Bool.false_eq_true, Bool.true_eq_false, eq_self, Bool.true_or, Bool.false_or, Bool.true_and, Bool.false_and, Bool.or_true, Bool.or_false, Bool.and_true, Bool.and_false, List.getD_cons_zero, List.getD_cons_succ, cell_int, cell_bool, cell_str, cell_sl, cell_agg, i_int, b_bool, s_str, nb_sl, els_sl, nb_ov, els_ov, cs_pv, cs_agg, Int.toNat_natCast, toNat_sub1, toNat_add1, List.length_map, getD_map, ct, cf, beqd, bned, cp, cn, cnp, cnn, if_pos, if_neg, wrap64, Option.bind_some, Bool.not_true, Bool.not_false, List.isEmpty_nil, List.nil_append, List.length_nil, List.length_cons, Nat.zero_add, rcheck_ok n l hl, hc, ne_eq, not_true_eq_false, rmoment_ok, hn, hp]
  simp (disch := omega) only [decide_true, decide_false, if_true, if_false, Bool.false_eq_true, Bool.true_eq_false, eq_self, Bool.true_or, Bool.false_or, Bool.true_and, Bool.false_and, Bool.or_true, Bool.or_false, Bool.and_true, Bool.and_false, List.getD_cons_zero, List.getD_cons_succ, cell_int, cell_bool, cell_str, cell_sl, cell_agg, i_int, b_bool, s_str, nb_sl, els_sl, nb_ov, els_ov, cs_pv, cs_agg, Int.toNat_natCast, toNat_sub1, toNat_add1, List.length_map, getD_map, ct, cf, beqd, bned, cp, cn, cnp, cnn, if_pos, if_neg, wrap64, Option.bind_some, Bool.not_true, Bool.not_false, List.isEmpty_nil, List.nil_append, List.length_nil, List.length_cons, Nat.zero_add, rcheck_ok n l hl, hc, ne_eq, not_true_eq_false, rmoment_ok, hn, hp]
  have hn' := hn
  have hp' := hp
  unfold mom at hn' hp'
  rw [decide_eq_true_eq] at hn' hp'
  have := iter_ix (F := gatepathref29_Late.b0 (Cl ty tab) k l now pat) l.length (fun i => [.ov 9 (lateL now pat (l.take i)).isEmpty (lateL now pat (l.take i)), .int .i64 i]) (fun _ => some [.ov 9 (lateL now pat l).isEmpty (lateL now pat l), .int .i64 0]) (fun i hi again ha => ?_) (fun again => ?_) k (by omega) 0 (by omega)
  · exact this
  · have hm := List.getElem_mem hi
    have h1 := right_moms (c3 _ hm)
    have h2 := lateL_len now pat (l.take i)
    rw [List.length_take] at h2
    unfold gatepathref29_Late.b0
    rw [List.take_add_one, List.getElem?_eq_getElem hi, Option.toList_some, lateL_snoc] at ha
    have e1 : (l[i].cell 35).i = til l[i] := rfl
    have e2 : (l[i].cell 36).i = seen l[i] := rfl
    have e : (lateL now pat (l.take i) ++ [D.str (l[i].cell 0).s]).isEmpty = false := by simp
    simp (disch := omega) only [decide_true, decide_false, if_true, if_false, Bool.false_eq_true, Bool.true_eq_false, eq_self, Bool.true_or, Bool.false_or, Bool.true_and, Bool.false_and, Bool.or_true, Bool.or_false, Bool.and_true, Bool.and_false, List.getD_cons_zero, List.getD_cons_succ, cell_int, cell_bool, cell_str, cell_sl, cell_agg, i_int, b_bool, s_str, nb_sl, els_sl, nb_ov, els_ov, cs_pv, cs_agg, Int.toNat_natCast, toNat_sub1, toNat_add1, List.length_map, getD_map, ct, cf, beqd, bned, cp, cn, cnp, cnn, if_pos, if_neg, wrap64, Option.bind_some, Bool.not_true, Bool.not_false, List.isEmpty_nil, List.nil_append, List.length_nil, List.length_cons, Nat.zero_add, getD_get, e1, e2]
    by_cases h3 : til l[i] < now
    · have h4 : lateF now pat l[i] = true := by simp [lateF, h3]
      rw [h4] at ha
      simp (disch := omega) only [decide_true, decide_false, if_true, if_false, Bool.false_eq_true, Bool.true_eq_false, eq_self, Bool.true_or, Bool.false_or, Bool.true_and, Bool.false_and, Bool.or_true, Bool.or_false, Bool.and_true, Bool.and_false, List.getD_cons_zero, List.getD_cons_succ, cell_int, cell_bool, cell_str, cell_sl, cell_agg, i_int, b_bool, s_str, nb_sl, els_sl, nb_ov, els_ov, cs_pv, cs_agg, Int.toNat_natCast, toNat_sub1, toNat_add1, List.length_map, getD_map, ct, cf, beqd, bned, cp, cn, cnp, cnn, if_pos, if_neg, wrap64, Option.bind_some, Bool.not_true, Bool.not_false, List.isEmpty_nil, List.nil_append, List.length_nil, List.length_cons, Nat.zero_add, Int.natCast_add, Int.natCast_one, e] at ha ⊢
      exact ha
    · by_cases h5 : seen l[i] + pat < now
      · have h4 : lateF now pat l[i] = true := by simp [lateF]; omega
        rw [h4] at ha
        simp (disch := omega) only [decide_true, decide_false, if_true, if_false, Bool.false_eq_true, Bool.true_eq_false, eq_self, Bool.true_or, Bool.false_or, Bool.true_and, Bool.false_and, Bool.or_true, Bool.or_false, Bool.and_true, Bool.and_false, List.getD_cons_zero, List.getD_cons_succ, cell_int, cell_bool, cell_str, cell_sl, cell_agg, i_int, b_bool, s_str, nb_sl, els_sl, nb_ov, els_ov, cs_pv, cs_agg, Int.toNat_natCast, toNat_sub1, toNat_add1, List.length_map, getD_map, ct, cf, beqd, bned, cp, cn, cnp, cnn, if_pos, if_neg, wrap64, Option.bind_some, Bool.not_true, Bool.not_false, List.isEmpty_nil, List.nil_append, List.length_nil, List.length_cons, Nat.zero_add, Int.natCast_add, Int.natCast_one, e] at ha ⊢
        exact ha
      · have h4 : lateF now pat l[i] = false := by simp [lateF]; omega
        rw [h4] at ha
        simp (disch := omega) only [decide_true, decide_false, if_true, if_false, Bool.false_eq_true, Bool.true_eq_false, eq_self, Bool.true_or, Bool.false_or, Bool.true_and, Bool.false_and, Bool.or_true, Bool.or_false, Bool.and_true, Bool.and_false, List.getD_cons_zero, List.getD_cons_succ, cell_int, cell_bool, cell_str, cell_sl, cell_agg, i_int, b_bool, s_str, nb_sl, els_sl, nb_ov, els_ov, cs_pv, cs_agg, Int.toNat_natCast, toNat_sub1, toNat_add1, List.length_map, getD_map, ct, cf, beqd, bned, cp, cn, cnp, cnn, if_pos, if_neg, wrap64, Option.bind_some, Bool.not_true, Bool.not_false, List.isEmpty_nil, List.nil_append, List.length_nil, List.length_cons, Nat.zero_add, Int.natCast_add, Int.natCast_one] at ha ⊢
        exact ha
  · unfold gatepathref29_Late.b0
    simp (disch := omega) only [decide_true, decide_false, if_true, if_false, Bool.false_eq_true, Bool.true_eq_false, eq_self, Bool.true_or, Bool.false_or, Bool.true_and, Bool.false_and, Bool.or_true, Bool.or_false, Bool.and_true, Bool.and_false, List.getD_cons_zero, List.getD_cons_succ, cell_int, cell_bool, cell_str, cell_sl, cell_agg, i_int, b_bool, s_str, nb_sl, els_sl, nb_ov, els_ov, cs_pv, cs_agg, Int.toNat_natCast, toNat_sub1, toNat_add1, List.length_map, getD_map, ct, cf, beqd, bned, cp, cn, cnp, cnn, if_pos, if_neg, wrap64, Option.bind_some, Bool.not_true, Bool.not_false, List.isEmpty_nil, List.nil_append, List.length_nil, List.length_cons, Nat.zero_add, List.take_length]

/-! finding -/
def lbS : List D → List UInt8 → Nat
  | [], _ => 0
  | d :: t, s => if Op.bytesLess (uri d) s = true then lbS t s + 1 else 0

theorem lb_le (s : List UInt8) : ∀ l, lbS l s ≤ l.length
  | [] => Nat.le_refl _
  | d :: t => by unfold lbS; have := lb_le s t; split <;> simp <;> omega

theorem lb_iff {s : List UInt8} : ∀ {l : List D}, Asc l → ∀ (i : Nat) (hi : i < l.length), Op.bytesLess (uri l[i]) s = true ↔ i < lbS l s
  | d :: t, h, i, hi => by
    obtain ⟨h1, h2⟩ := List.pairwise_cons.1 h
    unfold lbS
    by_cases hd : Op.bytesLess (uri d) s = true
    · rw [if_pos hd]
      cases i with
      | zero => simp [hd]
      | succ i => simpa using lb_iff h2 i (by simpa using hi)
    · rw [if_neg hd]
      cases i with
      | zero => simpa using hd
      | succ i =>
        simp only [List.getElem_cons_succ, Nat.not_lt_zero, iff_false]
        intro hc
        exact hd (bl_trans (h1 _ (List.getElem_mem (by simpa using hi))) hc)

def atS (l : List D) (s : List UInt8) : Bool := match l[lbS l s]? with | some d => decide (uri d = s) | none => false

theorem atS_iff {s : List UInt8} : ∀ {l : List D}, Asc l → (atS l s = true ↔ ∃ d, d ∈ l ∧ uri d = s)
  | [], _ => by simp [atS]
  | d :: t, h => by
    obtain ⟨h1, h2⟩ := List.pairwise_cons.1 h
    have ih := atS_iff (s := s) h2
    unfold atS at ih ⊢
    rw [lbS]
    by_cases hd : Op.bytesLess (uri d) s = true
    · rw [if_pos hd]
      simp only [List.getElem?_cons_succ]
      rw [ih]
      constructor
      · rintro ⟨x, hx, e⟩; exact ⟨x, List.mem_cons_of_mem _ hx, e⟩
      · rintro ⟨x, hx, e⟩
        rcases List.mem_cons.1 hx with rfl | hx
        · subst e; rw [bl_irrefl] at hd; cases hd
        · exact ⟨x, hx, e⟩
    · rw [if_neg hd]
      simp only [List.getElem?_cons_zero, decide_eq_true_eq]
      constructor
      · intro e; exact ⟨d, List.mem_cons_self .., e⟩
      · rintro ⟨x, hx, e⟩
        rcases List.mem_cons.1 hx with rfl | hx
        · exact e
        · exact absurd (e ▸ h1 x hx) hd

theorem nan_ok (s : ByteArray) : Cl ty tab 45 [.str s] = some [.bool false] := by
  refine s_cmp_isNaN 0 _ ?_
  unfold cmp_isNaN
  simp

def cmpS (a b : List UInt8) : Int := if Op.bytesLess a b = true then -1 else if Op.bytesLess b a = true then 1 else 0

theorem cmp_ok (a b : ByteArray) : Cl ty tab 32 [.str a, .str b] = some [.int .i64 (cmpS a.toList b.toList)] := by
  refine s_cmp_Compare 0 _ _ ?_
  unfold cmp_Compare cmpS
  rw [le_not]
  simp (disch := omega) only [decide_true, decide_false, if_true, if_false, Bool.false_eq_true, Bool.true_eq_false, eq_self, Bool.true_or, Bool.false_or, Bool.true_and, Bool.false_and, Bool.or_true, Bool.or_false, Bool.and_true, Bool.and_false, List.getD_cons_zero, List.getD_cons_succ, cell_int, cell_bool, cell_str, cell_sl, cell_agg, i_int, b_bool, s_str, nb_sl, els_sl, nb_ov, els_ov, cs_pv, cs_agg, Int.toNat_natCast, toNat_sub1, toNat_add1, List.length_map, getD_map, ct, cf, beqd, bned, cp, cn, cnp, cnn, if_pos, if_neg, wrap64, Option.bind_some, Bool.not_true, Bool.not_false, List.isEmpty_nil, List.nil_append, List.length_nil, List.length_cons, Nat.zero_add, nan_ok]
  cases Op.bytesLess a.toList b.toList
  · cases Op.bytesLess b.toList a.toList
    · simp (disch := omega) only [decide_true, decide_false, if_true, if_false, Bool.false_eq_true, Bool.true_eq_false, eq_self, Bool.true_or, Bool.false_or, Bool.true_and, Bool.false_and, Bool.or_true, Bool.or_false, Bool.and_true, Bool.and_false, List.getD_cons_zero, List.getD_cons_succ, cell_int, cell_bool, cell_str, cell_sl, cell_agg, i_int, b_bool, s_str, nb_sl, els_sl, nb_ov, els_ov, cs_pv, cs_agg, Int.toNat_natCast, toNat_sub1, toNat_add1, List.length_map, getD_map, ct, cf, beqd, bned, cp, cn, cnp, cnn, if_pos, if_neg, wrap64, Option.bind_some, Bool.not_true, Bool.not_false, List.isEmpty_nil, List.nil_append, List.length_nil, List.length_cons, Nat.zero_add]
    · simp (disch := omega) only [decide_true, decide_false, if_true, if_false, Bool.false_eq_true, Bool.true_eq_false, eq_self, Bool.true_or, Bool.false_or, Bool.true_and, Bool.false_and, Bool.or_true, Bool.or_false, Bool.and_true, Bool.and_false, List.getD_cons_zero, List.getD_cons_succ, cell_int, cell_bool, cell_str, cell_sl, cell_agg, i_int, b_bool, s_str, nb_sl, els_sl, nb_ov, els_ov, cs_pv, cs_agg, Int.toNat_natCast, toNat_sub1, toNat_add1, List.length_map, getD_map, ct, cf, beqd, bned, cp, cn, cnp, cnn, if_pos, if_neg, wrap64, Option.bind_some, Bool.not_true, Bool.not_false, List.isEmpty_nil, List.nil_append, List.length_nil, List.length_cons, Nat.zero_add]
  · simp (disch := omega) only [decide_true, decide_false, if_true, if_false, Bool.false_eq_true, Bool.true_eq_false, eq_self, Bool.true_or, Bool.false_or, Bool.true_and, Bool.false_and, Bool.or_true, Bool.or_false, Bool.and_true, Bool.and_false, List.getD_cons_zero, List.getD_cons_succ, cell_int, cell_bool, cell_str, cell_sl, cell_agg, i_int, b_bool, s_str, nb_sl, els_sl, nb_ov, els_ov, cs_pv, cs_agg, Int.toNat_natCast, toNat_sub1, toNat_add1, List.length_map, getD_map, ct, cf, beqd, bned, cp, cn, cnp, cnn, if_pos, if_neg, wrap64, Option.bind_some, Bool.not_true, Bool.not_false, List.isEmpty_nil, List.nil_append, List.length_nil, List.length_cons, Nat.zero_add]

theorem find1_ok (d : D) (s : ByteArray) (hd : Fit d) : Cl ty tab 47 [d, .str s] = some [.int .i64 (cmpS (uri d) s.toList)] := by
  have := s_fresh_find_1 0 d s (r := [.int .i64 (cmpS (uri d) s.toList)]) ?_
  · rwa [eta_fit hd] at this
  unfold fresh_find_1
  simp (disch := omega) only [decide_true, decide_false, if_true, if_false, Bool.false_eq_true, Bool.true_eq_false, eq_self, Bool.true_or, Bool.false_or, Bool.true_and, Bool.false_and, Bool.or_true, Bool.or_false, Bool.and_true, Bool.and_false, List.getD_cons_zero, List.getD_cons_succ, cell_int, cell_bool, cell_str, cell_sl, cell_agg, i_int, b_bool, s_str, nb_sl, els_sl, nb_ov, els_ov, cs_pv, cs_agg, Int.toNat_natCast, toNat_sub1, toNat_add1, List.length_map, getD_map, ct, cf, beqd, bned, cp, cn, cnp, cnn, if_pos, if_neg, wrap64, Option.bind_some, Bool.not_true, Bool.not_false, List.isEmpty_nil, List.nil_append, List.length_nil, List.length_cons, Nat.zero_add, cmp_ok]
  rfl

theorem bsf_ok (n : Bool) (l : List D) (s : ByteArray) (hl : Fine l) (hr : Asc l) : Cl ty tab 46 [.sl 47 n l, .str s, .fn 47 []] = some [.int .i64 (lbS l s.toList), .bool (atS l s.toList)] := by
  have hl1 := hl.len
  obtain ⟨k, hk⟩ := rounds
  refine s_slices_BinarySearchFunc k _ _ _ ?_
  unfold slices_BinarySearchFunc
  have hle := lb_le s.toList l
  have hiff := lb_iff (s := s.toList) hr
  have := iter_wf (F := slices_BinarySearchFunc.b0 (Cl ty tab) k l s) (σ := Nat × Nat) (fun q => [.int .i64 q.1, .int .i64 q.2]) (fun _ => some [.int .i64 (lbS l s.toList), .bool (atS l s.toList)]) (fun q => q.2 - q.1)
    (fun q => q.1 ≤ lbS l s.toList ∧ lbS l s.toList ≤ q.2 ∧ q.2 ≤ l.length) (fun q hs again ha => ?_) k (0, l.length) ⟨Nat.zero_le _, hle, Nat.le_refl _⟩ (by simp only; omega)
  · simpa using this
  · obtain ⟨i, j⟩ := q
    simp only at hs ha
    obtain ⟨s1, s2, s3⟩ := hs
    unfold slices_BinarySearchFunc.b0
    by_cases hij : i < j
    · have hm := mid (i := i) (j := j) (by omega) (by omega)
      have hlt : (i + j) / 2 < l.length := by omega
      have h1 := find1_ok l[(i + j) / 2] s (hl.fit _ (List.getElem_mem hlt))
      have h2 := hiff ((i + j) / 2) hlt
      unfold cmpS at h1
      cases h3 : Op.bytesLess (uri l[(i + j) / 2]) s.toList with
      | true =>
        have := ha ((i + j) / 2 + 1, j) ⟨h2.1 h3, s2, s3⟩ (by simp only; omega)
        rw [h3] at h1
        simp (disch := omega) only [decide_true, decide_false, if_true, if_false, Bool.false_eq_true, Bool.true_eq_false, eq_self, Bool.true_or, Bool.false_or, Bool.true_and, Bool.false_and, Bool.or_true, Bool.or_false, Bool.and_true, Bool.and_false, List.getD_cons_zero, List.getD_cons_succ, cell_int, cell_bool, cell_str, cell_sl, cell_agg, i_int, b_bool, s_str, nb_sl, els_sl, nb_ov, els_ov, cs_pv, cs_agg, Int.toNat_natCast, toNat_sub1, toNat_add1, List.length_map, getD_map, ct, cf, beqd, bned, cp, cn, cnp, cnn, if_pos, if_neg, wrap64, Option.bind_some, Bool.not_true, Bool.not_false, List.isEmpty_nil, List.nil_append, List.length_nil, List.length_cons, Nat.zero_add, hm, getD_get, hl.eta hlt] at h1 ⊢
        simp (disch := omega) only [decide_true, decide_false, if_true, if_false, Bool.false_eq_true, Bool.true_eq_false, eq_self, Bool.true_or, Bool.false_or, Bool.true_and, Bool.false_and, Bool.or_true, Bool.or_false, Bool.and_true, Bool.and_false, List.getD_cons_zero, List.getD_cons_succ, cell_int, cell_bool, cell_str, cell_sl, cell_agg, i_int, b_bool, s_str, nb_sl, els_sl, nb_ov, els_ov, cs_pv, cs_agg, Int.toNat_natCast, toNat_sub1, toNat_add1, List.length_map, getD_map, ct, cf, beqd, bned, cp, cn, cnp, cnn, if_pos, if_neg, wrap64, Option.bind_some, Bool.not_true, Bool.not_false, List.isEmpty_nil, List.nil_append, List.length_nil, List.length_cons, Nat.zero_add, h1]
        exact this
      | false =>
        have h4 : ¬ (i + j) / 2 < lbS l s.toList := fun h => by rw [h2.2 h] at h3; cases h3
        have := ha (i, (i + j) / 2) ⟨s1, by simp only; omega, by simp only; omega⟩ (by simp only; omega)
        rw [h3] at h1
        simp (disch := omega) only [decide_true, decide_false, if_true, if_false, Bool.false_eq_true, Bool.true_eq_false, eq_self, Bool.true_or, Bool.false_or, Bool.true_and, Bool.false_and, Bool.or_true, Bool.or_false, Bool.and_true, Bool.and_false, List.getD_cons_zero, List.getD_cons_succ, cell_int, cell_bool, cell_str, cell_sl, cell_agg, i_int, b_bool, s_str, nb_sl, els_sl, nb_ov, els_ov, cs_pv, cs_agg, Int.toNat_natCast, toNat_sub1, toNat_add1, List.length_map, getD_map, ct, cf, beqd, bned, cp, cn, cnp, cnn, if_pos, if_neg, wrap64, Option.bind_some, Bool.not_true, Bool.not_false, List.isEmpty_nil, List.nil_append, List.length_nil, List.length_cons, Nat.zero_add, hm, getD_get, hl.eta hlt] at h1 ⊢
        cases h5 : Op.bytesLess s.toList (uri l[(i + j) / 2]) with
        | true =>
          rw [h5] at h1
          simp (disch := omega) only [decide_true, decide_false, if_true, if_false, Bool.false_eq_true, Bool.true_eq_false, eq_self, Bool.true_or, Bool.false_or, Bool.true_and, Bool.false_and, Bool.or_true, Bool.or_false, Bool.and_true, Bool.and_false, List.getD_cons_zero, List.getD_cons_succ, cell_int, cell_bool, cell_str, cell_sl, cell_agg, i_int, b_bool, s_str, nb_sl, els_sl, nb_ov, els_ov, cs_pv, cs_agg, Int.toNat_natCast, toNat_sub1, toNat_add1, List.length_map, getD_map, ct, cf, beqd, bned, cp, cn, cnp, cnn, if_pos, if_neg, wrap64, Option.bind_some, Bool.not_true, Bool.not_false, List.isEmpty_nil, List.nil_append, List.length_nil, List.length_cons, Nat.zero_add, h1]
          exact this
        | false =>
          rw [h5] at h1
          simp (disch := omega) only [decide_true, decide_false, if_true, if_false, Bool.false_eq_true, Bool.true_eq_false, eq_self, Bool.true_or, Bool.false_or, Bool.true_and, Bool.false_and, Bool.or_true, Bool.or_false, Bool.and_true, Bool.and_false, List.getD_cons_zero, List.getD_cons_succ, cell_int, cell_bool, cell_str, cell_sl, cell_agg, i_int, b_bool, s_str, nb_sl, els_sl, nb_ov, els_ov, cs_pv, cs_agg, Int.toNat_natCast, toNat_sub1, toNat_add1, List.length_map, getD_map, ct, cf, beqd, bned, cp, cn, cnp, cnn, if_pos, if_neg, wrap64, Option.bind_some, Bool.not_true, Bool.not_false, List.isEmpty_nil, List.nil_append, List.length_nil, List.length_cons, Nat.zero_add, h1]
          exact this
    · have e : i = lbS l s.toList := by omega
      rw [← e]
      by_cases hlt : i < l.length
      · have h1 := find1_ok l[i] s (hl.fit _ (List.getElem_mem hlt))
        have h2 := hiff i hlt
        have h3 : Op.bytesLess (uri l[i]) s.toList = false := by
          cases h : Op.bytesLess (uri l[i]) s.toList with
          | false => rfl
          | true => have := h2.1 h; omega
        have h4 : atS l s.toList = decide (uri l[i] = s.toList) := by unfold atS; rw [← e]; simp [hlt]
        unfold cmpS at h1
        rw [h3] at h1
        rw [h4]
        simp (disch := omega) only [decide_true, decide_false, if_true, if_false, Bool.false_eq_true, Bool.true_eq_false, eq_self, Bool.true_or, Bool.false_or, Bool.true_and, Bool.false_and, Bool.or_true, Bool.or_false, Bool.and_true, Bool.and_false, List.getD_cons_zero, List.getD_cons_succ, cell_int, cell_bool, cell_str, cell_sl, cell_agg, i_int, b_bool, s_str, nb_sl, els_sl, nb_ov, els_ov, cs_pv, cs_agg, Int.toNat_natCast, toNat_sub1, toNat_add1, List.length_map, getD_map, ct, cf, beqd, bned, cp, cn, cnp, cnn, if_pos, if_neg, wrap64, Option.bind_some, Bool.not_true, Bool.not_false, List.isEmpty_nil, List.nil_append, List.length_nil, List.length_cons, Nat.zero_add, getD_get, hl.eta hlt] at h1 ⊢
        simp (disch := omega) only [decide_true, decide_false, if_true, if_false, Bool.false_eq_true, Bool.true_eq_false, eq_self, Bool.true_or, Bool.false_or, Bool.true_and, Bool.false_and, Bool.or_true, Bool.or_false, Bool.and_true, Bool.and_false, List.getD_cons_zero, List.getD_cons_succ, cell_int, cell_bool, cell_str, cell_sl, cell_agg, i_int, b_bool, s_str, nb_sl, els_sl, nb_ov, els_ov, cs_pv, cs_agg, Int.toNat_natCast, toNat_sub1, toNat_add1, List.length_map, getD_map, ct, cf, beqd, bned, cp, cn, cnp, cnn, if_pos, if_neg, wrap64, Option.bind_some, Bool.not_true, Bool.not_false, List.isEmpty_nil, List.nil_append, List.length_nil, List.length_cons, Nat.zero_add, h1]
        cases h5 : Op.bytesLess s.toList (uri l[i]) with
        | true =>
          have : ¬ uri l[i] = s.toList := fun e => by rw [e, bl_irrefl] at h5; cases h5
          simp (disch := omega) only [decide_true, decide_false, if_true, if_false, Bool.false_eq_true, Bool.true_eq_false, eq_self, Bool.true_or, Bool.false_or, Bool.true_and, Bool.false_and, Bool.or_true, Bool.or_false, Bool.and_true, Bool.and_false, List.getD_cons_zero, List.getD_cons_succ, cell_int, cell_bool, cell_str, cell_sl, cell_agg, i_int, b_bool, s_str, nb_sl, els_sl, nb_ov, els_ov, cs_pv, cs_agg, Int.toNat_natCast, toNat_sub1, toNat_add1, List.length_map, getD_map, ct, cf, beqd, bned, cp, cn, cnp, cnn, if_pos, if_neg, wrap64, Option.bind_some, Bool.not_true, Bool.not_false, List.isEmpty_nil, List.nil_append, List.length_nil, List.length_cons, Nat.zero_add, this, dF, dT]
        | false =>
          have := bl_tri _ _ h3 h5
          simp (disch := omega) only [decide_true, decide_false, if_true, if_false, Bool.false_eq_true, Bool.true_eq_false, eq_self, Bool.true_or, Bool.false_or, Bool.true_and, Bool.false_and, Bool.or_true, Bool.or_false, Bool.and_true, Bool.and_false, List.getD_cons_zero, List.getD_cons_succ, cell_int, cell_bool, cell_str, cell_sl, cell_agg, i_int, b_bool, s_str, nb_sl, els_sl, nb_ov, els_ov, cs_pv, cs_agg, Int.toNat_natCast, toNat_sub1, toNat_add1, List.length_map, getD_map, ct, cf, beqd, bned, cp, cn, cnp, cnn, if_pos, if_neg, wrap64, Option.bind_some, Bool.not_true, Bool.not_false, List.isEmpty_nil, List.nil_append, List.length_nil, List.length_cons, Nat.zero_add, this, dF, dT]
      · have h4 : atS l s.toList = false := by unfold atS; rw [← e]; simp [hlt]
        simp (disch := omega) only [decide_true, decide_false, if_true, if_false, Bool.false_eq_true, Bool.true_eq_false, eq_self, Bool.true_or, Bool.false_or, Bool.true_and, Bool.false_and, Bool.or_true, Bool.or_false, Bool.and_true, Bool.and_false, List.getD_cons_zero, List.getD_cons_succ, cell_int, cell_bool, cell_str, cell_sl, cell_agg, i_int, b_bool, s_str, nb_sl, els_sl, nb_ov, els_ov, cs_pv, cs_agg, Int.toNat_natCast, toNat_sub1, toNat_add1, List.length_map, getD_map, ct, cf, beqd, bned, cp, cn, cnp, cnn, if_pos, if_neg, wrap64, Option.bind_some, Bool.not_true, Bool.not_false, List.isEmpty_nil, List.nil_append, List.length_nil, List.length_cons, Nat.zero_add, h4]

theorem find_ok (n : Bool) (l : List D) (s : ByteArray) (hl : Fine l) (hr : Asc l) : Cl ty tab 37 [.sl 47 n l, .str s] = some [.int .i64 (lbS l s.toList), .bool (atS l s.toList)] := by
  refine s_fresh_find 0 _ _ _ ?_
  unfold fresh_find
  simp (disch := omega) only [decide_true, decide_false, if_true, if_false, Bool.false_eq_true, Bool.true_eq_false, eq_self, Bool.true_or, Bool.false_or, Bool.true_and, Bool.false_and, Bool.or_true, Bool.or_false, Bool.and_true, Bool.and_false, List.getD_cons_zero, List.getD_cons_succ, cell_int, cell_bool, cell_str, cell_sl, cell_agg, i_int, b_bool, s_str, nb_sl, els_sl, nb_ov, els_ov, cs_pv, cs_agg, Int.toNat_natCast, toNat_sub1, toNat_add1, List.length_map, getD_map, ct, cf, beqd, bned, cp, cn, cnp, cnn, if_pos, if_neg, wrap64, Option.bind_some, Bool.not_true, Bool.not_false, List.isEmpty_nil, List.nil_append, List.length_nil, List.length_cons, Nat.zero_add, bsf_ok n l s hl hr]

end Go.Proofs.Ytmfhhbiaghejjaa.Own
