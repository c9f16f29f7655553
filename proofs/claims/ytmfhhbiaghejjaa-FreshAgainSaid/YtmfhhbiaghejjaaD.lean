import Derived.Test.YtmfhhbiaghejjaaB
namespace Go.Proofs.Ytmfhhbiaghejjaa.Own
open Go Go.Proofs.Ytmfhhbiaghejjaa.GD
set_option linter.unusedVariables false
set_option linter.unusedSimpArgs false

theorem delete_ok (n : Bool) (l : List D) (i : Nat) (hi : i < l.length) (hl : l.length ≤ 200) : Cl ty tab 38 [.ov 47 n l, .int .i64 i, .int .i64 (i + 1 : Int)] = some [.ov 47 n (l.take i ++ l.drop (i + 1))] := by
  refine s_slices_Delete 0 _ _ _ _ ?_
  unfold slices_Delete
  have e1 : (l.drop (i + 1)).take (l.length - (i + 1)) = l.drop (i + 1) := List.take_of_length_le (by simp)
  have e2 : min i l.length = i := by omega
  simp (disch := omega) only [decide_true, decide_false, if_true, if_false, Bool.false_eq_true, Bool.true_eq_false, eq_self, Bool.true_or, Bool.false_or, Bool.true_and, Bool.false_and, Bool.or_true, Bool.or_false, Bool.and_true, Bool.and_false, List.getD_cons_zero, List.getD_cons_succ, cell_int, cell_bool, cell_str, cell_sl, cell_agg, i_int, b_bool, s_str, nb_sl, els_sl, nb_ov, els_ov, cs_pv, cs_agg, Int.toNat_natCast, toNat_sub1, toNat_add1, List.length_map, getD_map, ct, cf, beqd, bned, cp, cn, cnp, cnn, if_pos, if_neg, wrap64, Option.bind_some, Bool.not_true, Bool.not_false, List.isEmpty_nil, List.nil_append, List.length_nil, List.length_cons, Nat.zero_add, Int.toNat_zero, Nat.sub_zero, e1, List.length_drop, List.length_append, List.length_take, e2]
  have e3 : i + 1 + (l.length - (i + 1)) = l.length := by omega
  have e4 : l.drop (i + (l.length - (i + 1))) = l.drop (l.length - 1) := by congr 1; omega
  have e5 : (l.take i ++ l.drop (i + 1)).length = i + (l.length - (i + 1)) := by simp; omega
  have e6 : ∀ (Z : List D), (l.take i ++ (l.drop (i + 1) ++ Z)).take (i + (l.length - (i + 1))) = l.take i ++ l.drop (i + 1) := fun Z => by
    rw [← List.append_assoc, List.take_append_of_le_length (by omega), List.take_of_length_le (by omega)]
  simp only [e6]
  rw [List.take_append_of_le_length (by omega), List.take_of_length_le (by omega)]

theorem clone_ok (n : Bool) (l : List D) (hl : l.length ≤ 200) (hn : n = true → l = []) : Cl ty tab 39 [.sl 47 n l] = some [.ov 47 n l] := by
  refine s_slices_Clone 0 _ _ ?_
  unfold slices_Clone
  cases n with
  | true => rw [hn rfl]; rfl
  | false => simp (disch := omega) only [decide_true, decide_false, if_true, if_false, Bool.false_eq_true, Bool.true_eq_false, eq_self, Bool.true_or, Bool.false_or, Bool.true_and, Bool.false_and, Bool.or_true, Bool.or_false, Bool.and_true, Bool.and_false, List.getD_cons_zero, List.getD_cons_succ, cell_int, cell_bool, cell_str, cell_sl, cell_agg, i_int, b_bool, s_str, nb_sl, els_sl, nb_ov, els_ov, cs_pv, cs_agg, Int.toNat_natCast, toNat_sub1, toNat_add1, List.length_map, getD_map, ct, cf, beqd, bned, cp, cn, cnp, cnn, if_pos, if_neg, wrap64, Option.bind_some, Bool.not_true, Bool.not_false, List.isEmpty_nil, List.nil_append, List.length_nil, List.length_cons, Nat.zero_add]

/-- what is left without a point -/
def dropP (l : List D) (s : List UInt8) : List D := l.filter fun d => !(uri d == s)

theorem drop_at {s : List UInt8} : ∀ {l : List D}, Asc l → atS l s = true → dropP l s = l.take (lbS l s) ++ l.drop (lbS l s + 1)
  | d :: t, h, ha => by
    obtain ⟨h1, h2⟩ := List.pairwise_cons.1 h
    have hat := ha
    unfold atS at ha
    rw [lbS] at ha ⊢
    unfold dropP
    rw [List.filter_cons]
    by_cases hd : Op.bytesLess (uri d) s = true
    · rw [if_pos hd] at ha ⊢
      have ne : ¬ uri d = s := fun e => by rw [e, bl_irrefl] at hd; cases hd
      have ih := drop_at (s := s) h2 (by unfold atS; simpa using ha)
      unfold dropP at ih
      simp [ne, ih]
    · rw [if_neg hd] at ha ⊢
      simp only [List.getElem?_cons_zero, decide_eq_true_eq] at ha
      have : t.filter (fun d => !(uri d == s)) = t := by
        rw [List.filter_eq_self]
        intro x hx
        have := h1 x hx
        have ne : ¬ uri x = s := fun e => by rw [ha, e, bl_irrefl] at this; cases this
        simp [ne]
      simp [ha, this]

def forgetR (n : Bool) (l : List D) (s : List UInt8) : List D :=
  if checkF l ≠ 0 then [.ov 47 true [], .int .i64 (checkF l)] else if atS l s = true then [.ov 47 n (dropP l s), .int .i64 0] else [.ov 47 true [], .int .i64 6]

theorem forget_ok (n : Bool) (l : List D) (s : ByteArray) (hl : Fine l) (hn : n = true → l = []) : Cl ty tab 17 [.sl 47 n l, .str s] = some (forgetR n l s.toList) := by
  refine s_fresh_Forget 0 _ _ _ ?_
  unfold fresh_Forget forgetR
  by_cases hc : checkF l = 0
  case neg => simp (disch := omega) only [decide_true, decide_false, if_true, if_false, Bool.false_eq_true, Bool.true_eq_false, eq_self, Bool.true_or, Bool.false_or, Bool.true_and, Bool.false_and, Bool.or_true, Bool.or_false, Bool.and_true, Bool.and_false, List.getD_cons_zero, List.getD_cons_succ, cell_int, cell_bool, cell_str, cell_sl, cell_agg, i_int, b_bool, s_str, nb_sl, els_sl, nb_ov, els_ov, cs_pv, cs_agg, Int.toNat_natCast, toNat_sub1, toNat_add1, List.length_map, getD_map, ct, cf, beqd, bned, cp, cn, cnp, cnn, if_pos, if_neg, wrap64, Option.bind_some, Bool.not_true, Bool.not_false, List.isEmpty_nil, List.nil_append, List.length_nil, List.length_cons, Nat.zero_add, check_ok n l hl, hc, ne_eq, not_false_eq_true]
  obtain ⟨c1, c2, c3⟩ := check_zero hc
  simp (disch := omega) only [decide_true, decide_false, if_true, if_false, Bool.false_eq_true, Bool.true_eq_false, eq_self, Bool.true_or, Bool.false_or, Bool.true_and, Bool.false_and, Bool.or_true, Bool.or_false, Bool.and_true, Bool.and_false, List.getD_cons_zero, List.getD_cons_succ, cell_int, cell_bool, cell_str, cell_sl, cell_agg, i_int, b_bool, s_str, nb_sl, els_sl, nb_ov, els_ov, cs_pv, cs_agg, Int.toNat_natCast, toNat_sub1, toNat_add1, List.length_map, getD_map, ct, cf, beqd, bned, cp, cn, cnp, cnn, if_pos, if_neg, wrap64, Option.bind_some, Bool.not_true, Bool.not_false, List.isEmpty_nil, List.nil_append, List.length_nil, List.length_cons, Nat.zero_add, check_ok n l hl, hc, ne_eq, not_true_eq_false, find_ok n l s hl c2]
  cases ha : atS l s.toList
  · simp (disch := omega) only [decide_true, decide_false, if_true, if_false, Bool.false_eq_true, Bool.true_eq_false, eq_self, Bool.true_or, Bool.false_or, Bool.true_and, Bool.false_and, Bool.or_true, Bool.or_false, Bool.and_true, Bool.and_false, List.getD_cons_zero, List.getD_cons_succ, cell_int, cell_bool, cell_str, cell_sl, cell_agg, i_int, b_bool, s_str, nb_sl, els_sl, nb_ov, els_ov, cs_pv, cs_agg, Int.toNat_natCast, toNat_sub1, toNat_add1, List.length_map, getD_map, ct, cf, beqd, bned, cp, cn, cnp, cnn, if_pos, if_neg, wrap64, Option.bind_some, Bool.not_true, Bool.not_false, List.isEmpty_nil, List.nil_append, List.length_nil, List.length_cons, Nat.zero_add]
  have hlt : lbS l s.toList < l.length := by
    rcases Nat.lt_or_ge (lbS l s.toList) l.length with h | h
    · exact h
    · unfold atS at ha; rw [List.getElem?_eq_none h] at ha; cases ha
  simp (disch := omega) only [decide_true, decide_false, if_true, if_false, Bool.false_eq_true, Bool.true_eq_false, eq_self, Bool.true_or, Bool.false_or, Bool.true_and, Bool.false_and, Bool.or_true, Bool.or_false, Bool.and_true, Bool.and_false, List.getD_cons_zero, List.getD_cons_succ, cell_int, cell_bool, cell_str, cell_sl, cell_agg, i_int, b_bool, s_str, nb_sl, els_sl, nb_ov, els_ov, cs_pv, cs_agg, Int.toNat_natCast, toNat_sub1, toNat_add1, List.length_map, getD_map, ct, cf, beqd, bned, cp, cn, cnp, cnn, if_pos, if_neg, wrap64, Option.bind_some, Bool.not_true, Bool.not_false, List.isEmpty_nil, List.nil_append, List.length_nil, List.length_cons, Nat.zero_add, clone_ok n l c1 hn, delete_ok n l _ hlt c1, drop_at c2 ha]

theorem rfind_ok (n : Bool) (l : List D) (s : ByteArray) (hl : l.length ≤ 9223372036854775807) : ∃ j : Int, Cl ty tab 33 [.sl 47 n l, .str s] = some [.int .i64 j] ∧ -1 ≤ j ∧ j < l.length ∧ (j < 0 ↔ ∀ d, d ∈ l → uri d ≠ s.toList) ∧
    ∀ (h : 0 ≤ j), ∃ h2 : j.toNat < l.length, uri l[j.toNat] = s.toList := by
  obtain ⟨k, hk⟩ := rounds
  let val : List D → Nat → Int := fun t => t.rec (fun _ => -1) (fun d _ ih i => if uri d = s.toList then i else ih (i + 1))
  have hval : ∀ (t : List D) (i : Nat), (val t i = -1 ∧ ∀ d, d ∈ t → uri d ≠ s.toList) ∨ ∃ (q : Nat) (h : q < t.length), val t i = ((i + q : Nat) : Int) ∧ uri t[q] = s.toList := by
    intro t
    induction t with
    | nil => intro i; exact .inl ⟨rfl, fun d h => by cases h⟩
    | cons d t ih =>
      intro i
      by_cases h : uri d = s.toList
      · exact .inr ⟨0, by simp, by show (if uri d = s.toList then (i : Int) else _) = _; rw [if_pos h]; rfl, h⟩
      · have e : val (d :: t) i = val t (i + 1) := by show (if uri d = s.toList then (i : Int) else val t (i + 1)) = _; rw [if_neg h]
        rw [e]
        rcases ih (i + 1) with ⟨h1, h2⟩ | ⟨q, h1, h2, h3⟩
        · refine .inl ⟨h1, fun x hx => ?_⟩
          rcases List.mem_cons.1 hx with rfl | hx
          · exact h
          · exact h2 x hx
        · exact .inr ⟨q + 1, by simpa using h1, by rw [h2]; congr 1; omega, by simpa using h3⟩
  have run : Cl ty tab 33 [.sl 47 n l, .str s] = some [.int .i64 (val l 0)] := by
    refine s_gatepathref29_find k _ _ _ ?_
    unfold gatepathref29_find
    have := iter_ix (F := gatepathref29_find.b0 (Cl ty tab) k l s) l.length (fun i => [.int .i64 i]) (fun i => some [.int .i64 (val (l.drop i) i)]) (fun i hi again ha => ?_) (fun again => ?_) k (by omega) 0 (by omega)
    · simpa using this
    · unfold gatepathref29_find.b0
      rw [List.drop_eq_getElem_cons hi]
      have e0 : val (l[i] :: l.drop (i + 1)) i = if uri l[i] = s.toList then (i : Int) else val (l.drop (i + 1)) (i + 1) := rfl
      have e1 : ((l[i].cell 0).s).toList = uri l[i] := rfl
      rw [e0]
      by_cases h : uri l[i] = s.toList
      · have e2 : (uri l[i] == s.toList) = true := by simp [h]
        simp (disch := omega) only [decide_true, decide_false, if_true, if_false, Bool.false_eq_true, Bool.true_eq_false, eq_self, Bool.true_or, Bool.false_or, Bool.true_and, Bool.false_and, Bool.or_true, Bool.or_false, Bool.and_true, Bool.and_false, List.getD_cons_zero, List.getD_cons_succ, cell_int, cell_bool, cell_str, cell_sl, cell_agg, i_int, b_bool, s_str, nb_sl, els_sl, nb_ov, els_ov, cs_pv, cs_agg, Int.toNat_natCast, toNat_sub1, toNat_add1, List.length_map, getD_map, ct, cf, beqd, bned, cp, cn, cnp, cnn, if_pos, if_neg, wrap64, Option.bind_some, Bool.not_true, Bool.not_false, List.isEmpty_nil, List.nil_append, List.length_nil, List.length_cons, Nat.zero_add, getD_get, e1, e2]
      · have e2 : (uri l[i] == s.toList) = false := by simp [h]
        simp (disch := omega) only [decide_true, decide_false, if_true, if_false, Bool.false_eq_true, Bool.true_eq_false, eq_self, Bool.true_or, Bool.false_or, Bool.true_and, Bool.false_and, Bool.or_true, Bool.or_false, Bool.and_true, Bool.and_false, List.getD_cons_zero, List.getD_cons_succ, cell_int, cell_bool, cell_str, cell_sl, cell_agg, i_int, b_bool, s_str, nb_sl, els_sl, nb_ov, els_ov, cs_pv, cs_agg, Int.toNat_natCast, toNat_sub1, toNat_add1, List.length_map, getD_map, ct, cf, beqd, bned, cp, cn, cnp, cnn, if_pos, if_neg, wrap64, Option.bind_some, Bool.not_true, Bool.not_false, List.isEmpty_nil, List.nil_append, List.length_nil, List.length_cons, Nat.zero_add, getD_get, e1, e2]
        exact ha
    · unfold gatepathref29_find.b0
      simp (disch := omega) only [decide_true, decide_false, if_true, if_false, Bool.false_eq_true, Bool.true_eq_false, eq_self, Bool.true_or, Bool.false_or, Bool.true_and, Bool.false_and, Bool.or_true, Bool.or_false, Bool.and_true, Bool.and_false, List.getD_cons_zero, List.getD_cons_succ, cell_int, cell_bool, cell_str, cell_sl, cell_agg, i_int, b_bool, s_str, nb_sl, els_sl, nb_ov, els_ov, cs_pv, cs_agg, Int.toNat_natCast, toNat_sub1, toNat_add1, List.length_map, getD_map, ct, cf, beqd, bned, cp, cn, cnp, cnn, if_pos, if_neg, wrap64, Option.bind_some, Bool.not_true, Bool.not_false, List.isEmpty_nil, List.nil_append, List.length_nil, List.length_cons, Nat.zero_add, List.drop_length]
      rfl
  rcases hval l 0 with ⟨h1, h2⟩ | ⟨q, h1, h2, h3⟩
  · exact ⟨_, run, by omega, by omega, ⟨fun _ => h2, fun _ => by omega⟩, fun h => by omega⟩
  · rw [Nat.zero_add] at h2
    refine ⟨_, run, by omega, by omega, ⟨fun h => by omega, fun h => absurd h3 (h _ (List.getElem_mem h1))⟩, fun h => ?_⟩
    have e : (val l 0).toNat = q := by omega
    exact ⟨by omega, by simp only [e]; exact h3⟩

theorem dropP_snoc (l : List D) (d : D) (s : List UInt8) : dropP (l ++ [d]) s = if uri d = s then dropP l s else dropP l s ++ [d] := by
  unfold dropP
  rw [List.filter_append]
  by_cases h : uri d = s <;> simp [h]

theorem dropP_len (l : List D) (s : List UInt8) : (dropP l s).length ≤ l.length := List.length_filter_le ..

theorem rforget_ok (n : Bool) (l : List D) (s : ByteArray) (hl : Fine l) : ∃ m, Cl ty tab 18 [.sl 47 n l, .str s] = some (forgetR m l s.toList) := by
  obtain ⟨k, hk⟩ := rounds
  obtain ⟨j, hj, _, _, hj3, _⟩ := rfind_ok n l s hl.len
  by_cases hc : checkF l = 0
  case neg =>
    refine ⟨true, s_gatepathref29_Forget k _ _ _ ?_⟩
    unfold gatepathref29_Forget forgetR
    simp (disch := omega) only [decide_true, decide_false, if_true, if_false, Bool.false_eq_true, Bool.true_eq_false, eq_self, Bool.true_or, Bool.false_or, Bool.true_and, Bool.false_and, Bool.or_true, Bool.or_false, Bool.and_true, Bool.and_false, List.getD_cons_zero, List.getD_cons_succ, cell_int, cell_bool, cell_str, cell_sl, cell_agg, i_int, b_bool, s_str, nb_sl, els_sl, nb_ov, els_ov, cs_pv, cs_agg, Int.toNat_natCast, toNat_sub1, toNat_add1, List.length_map, getD_map, ct, cf, beqd, bned, cp, cn, cnp, cnn, if_pos, if_neg, wrap64, Option.bind_some, Bool.not_true, Bool.not_false, List.isEmpty_nil, List.nil_append, List.length_nil, List.length_cons, Nat.zero_add, rcheck_ok n l hl, hc, ne_eq, not_false_eq_true]
  obtain ⟨c1, c2, c3⟩ := check_zero hc
  by_cases ha : atS l s.toList = true
  case neg =>
    have : j < 0 := hj3.2 fun d hd e => ha ((atS_iff c2).2 ⟨d, hd, e⟩)
    refine ⟨true, s_gatepathref29_Forget k _ _ _ ?_⟩
    unfold gatepathref29_Forget forgetR
    simp (disch := omega) only [decide_true, decide_false, if_true, if_false, Bool.false_eq_true, Bool.true_eq_false, eq_self, Bool.true_or, Bool.false_or, Bool.true_and, Bool.false_and, Bool.or_true, Bool.or_false, Bool.and_true, Bool.and_false, List.getD_cons_zero, List.getD_cons_succ, cell_int, cell_bool, cell_str, cell_sl, cell_agg, i_int, b_bool, s_str, nb_sl, els_sl, nb_ov, els_ov, cs_pv, cs_agg, Int.toNat_natCast, toNat_sub1, toNat_add1, List.length_map, getD_map, ct, cf, beqd, bned, cp, cn, cnp, cnn, if_pos, if_neg, wrap64, Option.bind_some, Bool.not_true, Bool.not_false, List.isEmpty_nil, List.nil_append, List.length_nil, List.length_cons, Nat.zero_add, rcheck_ok n l hl, hc, ne_eq, not_true_eq_false, hj, ha]
  obtain ⟨d, hd, e⟩ := (atS_iff c2).1 ha
  have hj0 : ¬ j < 0 := fun h => hj3.1 h d hd e
  refine ⟨(dropP l s.toList).isEmpty, s_gatepathref29_Forget k _ _ _ ?_⟩
  unfold gatepathref29_Forget forgetR
  simp (disch := omega) only [decide_true, decide_false, if_true, if_false, Bool.false_eq_true, Bool.true_eq_false, eq_self, Bool.true_or, Bool.false_or, Bool.true_and, Bool.false_and, Bool.or_true, Bool.or_false, Bool.and_true, Bool.and_false, List.getD_cons_zero, List.getD_cons_succ, cell_int, cell_bool, cell_str, cell_sl, cell_agg, i_int, b_bool, s_str, nb_sl, els_sl, nb_ov, els_ov, cs_pv, cs_agg, Int.toNat_natCast, toNat_sub1, toNat_add1, List.length_map, getD_map, ct, cf, beqd, bned, cp, cn, cnp, cnn, if_pos, if_neg, wrap64, Option.bind_some, Bool.not_true, Bool.not_false, List.isEmpty_nil, List.nil_append, List.length_nil, List.length_cons, Nat.zero_add, rcheck_ok n l hl, hc, ne_eq, not_true_eq_false, hj, ha]
  have := iter_ix (F := gatepathref29_Forget.b0 (Cl ty tab) k l s) l.length (fun i => [.ov 47 (dropP (l.take i) s.toList).isEmpty (dropP (l.take i) s.toList), .int .i64 i]) (fun _ => some [.ov 47 (dropP l s.toList).isEmpty (dropP l s.toList), .int .i64 0]) (fun i hi again hag => ?_) (fun again => ?_) k (by omega) 0 (by omega)
  · exact this
  · have h2 := dropP_len (l.take i) s.toList
    rw [List.length_take] at h2
    unfold gatepathref29_Forget.b0
    rw [List.take_add_one, List.getElem?_eq_getElem hi, Option.toList_some, dropP_snoc] at hag
    have e1 : ((l[i].cell 0).s).toList = uri l[i] := rfl
    by_cases h : uri l[i] = s.toList
    · have e2 : (uri l[i] == s.toList) = true := by simp [h]
      rw [if_pos h] at hag
      simp (disch := omega) only [decide_true, decide_false, if_true, if_false, Bool.false_eq_true, Bool.true_eq_false, eq_self, Bool.true_or, Bool.false_or, Bool.true_and, Bool.false_and, Bool.or_true, Bool.or_false, Bool.and_true, Bool.and_false, List.getD_cons_zero, List.getD_cons_succ, cell_int, cell_bool, cell_str, cell_sl, cell_agg, i_int, b_bool, s_str, nb_sl, els_sl, nb_ov, els_ov, cs_pv, cs_agg, Int.toNat_natCast, toNat_sub1, toNat_add1, List.length_map, getD_map, ct, cf, beqd, bned, cp, cn, cnp, cnn, if_pos, if_neg, wrap64, Option.bind_some, Bool.not_true, Bool.not_false, List.isEmpty_nil, List.nil_append, List.length_nil, List.length_cons, Nat.zero_add, getD_get, e1, e2, Int.natCast_add, Int.natCast_one] at hag ⊢
      exact hag
    · have e2 : (uri l[i] == s.toList) = false := by simp [h]
      have e3 : (dropP (l.take i) s.toList ++ [l[i]]).isEmpty = false := by simp
      rw [if_neg h] at hag
      simp (disch := omega) only [decide_true, decide_false, if_true, if_false, Bool.false_eq_true, Bool.true_eq_false, eq_self, Bool.true_or, Bool.false_or, Bool.true_and, Bool.false_and, Bool.or_true, Bool.or_false, Bool.and_true, Bool.and_false, List.getD_cons_zero, List.getD_cons_succ, cell_int, cell_bool, cell_str, cell_sl, cell_agg, i_int, b_bool, s_str, nb_sl, els_sl, nb_ov, els_ov, cs_pv, cs_agg, Int.toNat_natCast, toNat_sub1, toNat_add1, List.length_map, getD_map, ct, cf, beqd, bned, cp, cn, cnp, cnn, if_pos, if_neg, wrap64, Option.bind_some, Bool.not_true, Bool.not_false, List.isEmpty_nil, List.nil_append, List.length_nil, List.length_cons, Nat.zero_add, getD_get, e1, e2, e3, hl.eta hi, Int.natCast_add, Int.natCast_one] at hag ⊢
      exact hag
  · unfold gatepathref29_Forget.b0
    simp (disch := omega) only [decide_true, decide_false, if_true, if_false, Bool.false_eq_true, Bool.true_eq_false, eq_self, Bool.true_or, Bool.false_or, Bool.true_and, Bool.false_and, Bool.or_true, Bool.or_false, Bool.and_true, Bool.and_false, List.getD_cons_zero, List.getD_cons_succ, cell_int, cell_bool, cell_str, cell_sl, cell_agg, i_int, b_bool, s_str, nb_sl, els_sl, nb_ov, els_ov, cs_pv, cs_agg, Int.toNat_natCast, toNat_sub1, toNat_add1, List.length_map, getD_map, ct, cf, beqd, bned, cp, cn, cnp, cnn, if_pos, if_neg, wrap64, Option.bind_some, Bool.not_true, Bool.not_false, List.isEmpty_nil, List.nil_append, List.length_nil, List.length_cons, Nat.zero_add, List.take_length]

theorem sameS_ok (n m : Bool) (a : List ByteArray) (ha : a.length ≤ 9223372036854775807) : Cl ty tab 21 [.sl 9 n (a.map D.str), .sl 9 m (a.map D.str)] = some [.bool true] := by
  obtain ⟨k, hk⟩ := rounds
  refine s_gatepathref29_SameStrings k _ _ _ _ ?_
  unfold gatepathref29_SameStrings
  simp (disch := omega) only [decide_true, decide_false, if_true, if_false, Bool.false_eq_true, Bool.true_eq_false, eq_self, Bool.true_or, Bool.false_or, Bool.true_and, Bool.false_and, Bool.or_true, Bool.or_false, Bool.and_true, Bool.and_false, List.getD_cons_zero, List.getD_cons_succ, cell_int, cell_bool, cell_str, cell_sl, cell_agg, i_int, b_bool, s_str, nb_sl, els_sl, nb_ov, els_ov, cs_pv, cs_agg, Int.toNat_natCast, toNat_sub1, toNat_add1, List.length_map, getD_map, ct, cf, beqd, bned, cp, cn, cnp, cnn, if_pos, if_neg, wrap64, Option.bind_some, Bool.not_true, Bool.not_false, List.isEmpty_nil, List.nil_append, List.length_nil, List.length_cons, Nat.zero_add, ne_eq, not_true_eq_false]
  have := iter_ix (F := gatepathref29_SameStrings.b0 (Cl ty tab) k (a.map D.str) (a.map D.str)) a.length (fun i => [.int .i64 i]) (fun i => some [.bool true]) (fun i hi again h2 => ?_) (fun again => ?_) k (by omega) 0 (by omega)
  · simpa using this
  · unfold gatepathref29_SameStrings.b0
    simp (disch := omega) only [decide_true, decide_false, if_true, if_false, Bool.false_eq_true, Bool.true_eq_false, eq_self, Bool.true_or, Bool.false_or, Bool.true_and, Bool.false_and, Bool.or_true, Bool.or_false, Bool.and_true, Bool.and_false, List.getD_cons_zero, List.getD_cons_succ, cell_int, cell_bool, cell_str, cell_sl, cell_agg, i_int, b_bool, s_str, nb_sl, els_sl, nb_ov, els_ov, cs_pv, cs_agg, Int.toNat_natCast, toNat_sub1, toNat_add1, List.length_map, getD_map, ct, cf, beqd, bned, cp, cn, cnp, cnn, if_pos, if_neg, wrap64, Option.bind_some, Bool.not_true, Bool.not_false, List.isEmpty_nil, List.nil_append, List.length_nil, List.length_cons, Nat.zero_add, beq_self_eq_true]
    exact h2
  · unfold gatepathref29_SameStrings.b0
    simp (disch := omega) only [decide_true, decide_false, if_true, if_false, Bool.false_eq_true, Bool.true_eq_false, eq_self, Bool.true_or, Bool.false_or, Bool.true_and, Bool.false_and, Bool.or_true, Bool.or_false, Bool.and_true, Bool.and_false, List.getD_cons_zero, List.getD_cons_succ, cell_int, cell_bool, cell_str, cell_sl, cell_agg, i_int, b_bool, s_str, nb_sl, els_sl, nb_ov, els_ov, cs_pv, cs_agg, Int.toNat_natCast, toNat_sub1, toNat_add1, List.length_map, getD_map, ct, cf, beqd, bned, cp, cn, cnp, cnn, if_pos, if_neg, wrap64, Option.bind_some, Bool.not_true, Bool.not_false, List.isEmpty_nil, List.nil_append, List.length_nil, List.length_cons, Nat.zero_add]

theorem sameP_ok (n m : Bool) (a : List D) (ha : a.length ≤ 9223372036854775807) : Cl ty tab 14 [.sl 47 n a, .sl 47 m a] = some [.bool true] := by
  obtain ⟨k, hk⟩ := rounds
  refine s_gatepathref29_Same k _ _ _ _ ?_
  unfold gatepathref29_Same
  simp (disch := omega) only [decide_true, decide_false, if_true, if_false, Bool.false_eq_true, Bool.true_eq_false, eq_self, Bool.true_or, Bool.false_or, Bool.true_and, Bool.false_and, Bool.or_true, Bool.or_false, Bool.and_true, Bool.and_false, List.getD_cons_zero, List.getD_cons_succ, cell_int, cell_bool, cell_str, cell_sl, cell_agg, i_int, b_bool, s_str, nb_sl, els_sl, nb_ov, els_ov, cs_pv, cs_agg, Int.toNat_natCast, toNat_sub1, toNat_add1, List.length_map, getD_map, ct, cf, beqd, bned, cp, cn, cnp, cnn, if_pos, if_neg, wrap64, Option.bind_some, Bool.not_true, Bool.not_false, List.isEmpty_nil, List.nil_append, List.length_nil, List.length_cons, Nat.zero_add, ne_eq, not_true_eq_false]
  have := iter_ix (F := gatepathref29_Same.b0 (Cl ty tab) k a a) a.length (fun i => [.int .i64 i]) (fun i => some [.bool true]) (fun i hi again h2 => ?_) (fun again => ?_) k (by omega) 0 (by omega)
  · simpa using this
  · unfold gatepathref29_Same.b0
    simp (disch := omega) only [decide_true, decide_false, if_true, if_false, Bool.false_eq_true, Bool.true_eq_false, eq_self, Bool.true_or, Bool.false_or, Bool.true_and, Bool.false_and, Bool.or_true, Bool.or_false, Bool.and_true, Bool.and_false, List.getD_cons_zero, List.getD_cons_succ, cell_int, cell_bool, cell_str, cell_sl, cell_agg, i_int, b_bool, s_str, nb_sl, els_sl, nb_ov, els_ov, cs_pv, cs_agg, Int.toNat_natCast, toNat_sub1, toNat_add1, List.length_map, getD_map, ct, cf, beqd, bned, cp, cn, cnp, cnn, if_pos, if_neg, wrap64, Option.bind_some, Bool.not_true, Bool.not_false, List.isEmpty_nil, List.nil_append, List.length_nil, List.length_cons, Nat.zero_add, eqCells_refl]
    exact h2
  · unfold gatepathref29_Same.b0
    simp (disch := omega) only [decide_true, decide_false, if_true, if_false, Bool.false_eq_true, Bool.true_eq_false, eq_self, Bool.true_or, Bool.false_or, Bool.true_and, Bool.false_and, Bool.or_true, Bool.or_false, Bool.and_true, Bool.and_false, List.getD_cons_zero, List.getD_cons_succ, cell_int, cell_bool, cell_str, cell_sl, cell_agg, i_int, b_bool, s_str, nb_sl, els_sl, nb_ov, els_ov, cs_pv, cs_agg, Int.toNat_natCast, toNat_sub1, toNat_add1, List.length_map, getD_map, ct, cf, beqd, bned, cp, cn, cnp, cnn, if_pos, if_neg, wrap64, Option.bind_some, Bool.not_true, Bool.not_false, List.isEmpty_nil, List.nil_append, List.length_nil, List.length_cons, Nat.zero_add]

end Go.Proofs.Ytmfhhbiaghejjaa.Own
