import Derived.Test.YtmfhhbiaghejjaaM
import Derived.Laws.Strings
namespace Go.Proofs.Ytmfhhbiaghejjaa.Own
open Go Go.Proofs.Ytmfhhbiaghejjaa.GD
set_option linter.unusedVariables false
set_option linter.unusedSimpArgs false

theorem str_inj {s t : ByteArray} (h : s.toList = t.toList) : s = t := by
  rw [ByteArray.toList_eq, ByteArray.toList_eq, Array.toList_inj] at h
  cases s; cases t; exact congrArg ByteArray.mk h

theorem hsh_fits (d : D) : fitsL (List.replicate 32 (.int .u8)) (hsh d) = true := rfl

theorem hsh_eq {x y : D} : eqCells (hsh x) (hsh y) = true ↔ hsh x = hsh y := eqCells_int _ _ 32 (hsh_fits x) (hsh_fits y)

def joinR (x y : D) : List D := match joinF x y with | some w => [w, .bool true] | none => [x, .bool false]

theorem rec_eta {d : D} (h : Fit d) : D.agg (.str (d.cell 0).s :: .int .u64 (num d) :: (hsh d ++ [.int .i64 (frm d), .int .i64 (til d), .int .i64 (seen d)])) = d := eta_fit h

theorem join_ok (x y : D) (hx : Fit x) (hy : Fit y) (e : uri x = uri y) : Cl ty tab 29 [x, y] = some (joinR x y) := by
  have := s_fresh_Merge_1 0 x y (r := joinR x y) ?_
  · rwa [eta_fit hx, eta_fit hy] at this
  have ex : D.agg (etaCells ks0 x 0) = x := eta_fit hx
  have ey : D.agg (etaCells ks0 y 0) = y := eta_fit hy
  unfold fresh_Merge_1
  by_cases h1 : num y < num x
  · have e1 : joinR x y = [x, .bool true] := by unfold joinR joinF; rw [if_pos h1]
    have h1' : (y.cell 1).i < (x.cell 1).i := h1
    rw [e1]
    simp (disch := omega) only [decide_true, decide_false, if_true, if_false, Bool.false_eq_true, Bool.true_eq_false, eq_self, Bool.true_or, Bool.false_or, Bool.true_and, Bool.false_and, Bool.or_true, Bool.or_false, Bool.and_true, Bool.and_false, List.getD_cons_zero, List.getD_cons_succ, cell_int, cell_bool, cell_str, cell_sl, cell_agg, i_int, b_bool, s_str, nb_sl, els_sl, nb_ov, els_ov, cs_pv, cs_agg, Int.toNat_natCast, toNat_sub1, toNat_add1, List.length_map, getD_map, ct, cf, beqd, bned, cp, cn, cnp, cnn, if_pos, if_neg, wrap64, Option.bind_some, Bool.not_true, Bool.not_false, List.isEmpty_nil, List.nil_append, List.length_nil, List.length_cons, Nat.zero_add, ex]
  have h1' : ¬ (y.cell 1).i < (x.cell 1).i := h1
  by_cases h2 : num x < num y
  · have e1 : joinR x y = [y, .bool true] := by unfold joinR joinF; rw [if_neg h1, if_pos h2]
    have h2' : (x.cell 1).i < (y.cell 1).i := h2
    rw [e1]
    simp (disch := omega) only [decide_true, decide_false, if_true, if_false, Bool.false_eq_true, Bool.true_eq_false, eq_self, Bool.true_or, Bool.false_or, Bool.true_and, Bool.false_and, Bool.or_true, Bool.or_false, Bool.and_true, Bool.and_false, List.getD_cons_zero, List.getD_cons_succ, cell_int, cell_bool, cell_str, cell_sl, cell_agg, i_int, b_bool, s_str, nb_sl, els_sl, nb_ov, els_ov, cs_pv, cs_agg, Int.toNat_natCast, toNat_sub1, toNat_add1, List.length_map, getD_map, ct, cf, beqd, bned, cp, cn, cnp, cnn, if_pos, if_neg, wrap64, Option.bind_some, Bool.not_true, Bool.not_false, List.isEmpty_nil, List.nil_append, List.length_nil, List.length_cons, Nat.zero_add, ey]
  have h2' : ¬ (x.cell 1).i < (y.cell 1).i := h2
  have hh : eqCells (etaCells ks1 x 2) (etaCells ks1 y 2) = eqCells (hsh x) (hsh y) := rfl
  have hw : (decide ((x.cell 34).i = (y.cell 34).i) && decide ((x.cell 35).i = (y.cell 35).i)) = ((frm x == frm y) && (til x == til y)) := rfl
  cases h3 : eqCells (hsh x) (hsh y) with
  | false =>
    have e1 : joinR x y = [x, .bool false] := by unfold joinR joinF cmpt; rw [if_neg h1, if_neg h2, h3]; rfl
    rw [e1]
    simp (disch := omega) only [decide_true, decide_false, if_true, if_false, Bool.false_eq_true, Bool.true_eq_false, eq_self, Bool.true_or, Bool.false_or, Bool.true_and, Bool.false_and, Bool.or_true, Bool.or_false, Bool.and_true, Bool.and_false, List.getD_cons_zero, List.getD_cons_succ, cell_int, cell_bool, cell_str, cell_sl, cell_agg, i_int, b_bool, s_str, nb_sl, els_sl, nb_ov, els_ov, cs_pv, cs_agg, Int.toNat_natCast, toNat_sub1, toNat_add1, List.length_map, getD_map, ct, cf, beqd, bned, cp, cn, cnp, cnn, if_pos, if_neg, wrap64, Option.bind_some, Bool.not_true, Bool.not_false, List.isEmpty_nil, List.nil_append, List.length_nil, List.length_cons, Nat.zero_add, hh, h3, ex]
  | true =>
    cases h4 : ((frm x == frm y) && (til x == til y)) with
    | false =>
      have e1 : joinR x y = [x, .bool false] := by unfold joinR joinF cmpt; rw [if_neg h1, if_neg h2, h3, h4]; rfl
      rw [e1]
      have hb : (decide (frm x = frm y) && decide (til x = til y)) = false := h4
      simp (disch := omega) only [decide_true, decide_false, if_true, if_false, Bool.false_eq_true, Bool.true_eq_false, eq_self, Bool.true_or, Bool.false_or, Bool.true_and, Bool.false_and, Bool.or_true, Bool.or_false, Bool.and_true, Bool.and_false, List.getD_cons_zero, List.getD_cons_succ, cell_int, cell_bool, cell_str, cell_sl, cell_agg, i_int, b_bool, s_str, nb_sl, els_sl, nb_ov, els_ov, cs_pv, cs_agg, Int.toNat_natCast, toNat_sub1, toNat_add1, List.length_map, getD_map, ct, cf, beqd, bned, cp, cn, cnp, cnn, if_pos, if_neg, wrap64, Option.bind_some, Bool.not_true, Bool.not_false, List.isEmpty_nil, List.nil_append, List.length_nil, List.length_cons, Nat.zero_add, hh, h3, hw, hb, ex]
    | true =>
      have e1 : joinR x y = [if seen x < seen y then y else x, .bool true] := by unfold joinR joinF cmpt; rw [if_neg h1, if_neg h2, h3, h4]; rfl
      rw [e1]
      have e2 : num x = num y := by omega
      have e3 := hsh_eq.1 h3
      simp only [Bool.and_eq_true, beq_iff_eq] at h4
      have hb : (decide (frm x = frm y) && decide (til x = til y)) = true := by simp [h4.1, h4.2]
      have e5 : (x.cell 0).s = (y.cell 0).s := str_inj e
      simp (disch := omega) only [decide_true, decide_false, if_true, if_false, Bool.false_eq_true, Bool.true_eq_false, eq_self, Bool.true_or, Bool.false_or, Bool.true_and, Bool.false_and, Bool.or_true, Bool.or_false, Bool.and_true, Bool.and_false, List.getD_cons_zero, List.getD_cons_succ, cell_int, cell_bool, cell_str, cell_sl, cell_agg, i_int, b_bool, s_str, nb_sl, els_sl, nb_ov, els_ov, cs_pv, cs_agg, Int.toNat_natCast, toNat_sub1, toNat_add1, List.length_map, getD_map, ct, cf, beqd, bned, cp, cn, cnp, cnn, if_pos, if_neg, wrap64, Option.bind_some, Bool.not_true, Bool.not_false, List.isEmpty_nil, List.nil_append, List.length_nil, List.length_cons, Nat.zero_add, hh, h3, hw, hb]
      by_cases h5 : seen x < seen y
      · have h5' : (x.cell 36).i < (y.cell 36).i := h5
        rw [if_pos h5, if_pos h5']
        have : D.agg (.str (x.cell 0).s :: .int .u64 (num x) :: (hsh x ++ [.int .i64 (frm x), .int .i64 (til x), .int .i64 (seen y)])) = y := by
          rw [e2, e3, h4.1, h4.2, e5]; exact rec_eta hy
        exact congrArg (fun w => some [w, D.bool true]) this
      · have h5' : ¬ (x.cell 36).i < (y.cell 36).i := h5
        rw [if_neg h5, if_neg h5']
        exact congrArg (fun w => some [w, D.bool true]) (rec_eta hx)

theorem order_ok (x y : D) (hx : Fit x) (hy : Fit y) : Cl ty tab 31 [x, y] = some [.int .i64 (cmpS (uri x) (uri y))] := by
  have := s_fresh_Merge_2 0 x y (r := [.int .i64 (cmpS (uri x) (uri y))]) ?_
  · rwa [eta_fit hx, eta_fit hy] at this
  unfold fresh_Merge_2
  simp (disch := omega) only [decide_true, decide_false, if_true, if_false, Bool.false_eq_true, Bool.true_eq_false, eq_self, Bool.true_or, Bool.false_or, Bool.true_and, Bool.false_and, Bool.or_true, Bool.or_false, Bool.and_true, Bool.and_false, List.getD_cons_zero, List.getD_cons_succ, cell_int, cell_bool, cell_str, cell_sl, cell_agg, i_int, b_bool, s_str, nb_sl, els_sl, nb_ov, els_ov, cs_pv, cs_agg, Int.toNat_natCast, toNat_sub1, toNat_add1, List.length_map, getD_map, ct, cf, beqd, bned, cp, cn, cnp, cnn, if_pos, if_neg, wrap64, Option.bind_some, Bool.not_true, Bool.not_false, List.isEmpty_nil, List.nil_append, List.length_nil, List.length_cons, Nat.zero_add, cmp_ok]
  rfl

/-! zipping -/
def zipR (out : List D) : Option (List D) → Option (List D)
  | none => some [.ov 47 true [], .bool false]
  | some z => some [.ov 47 (out ++ z).isEmpty (out ++ z), .bool true]

theorem fine_tail {d : D} {l : List D} (h : Fine (d :: l)) : Fit d ∧ Fine l :=
  ⟨h.fit _ (List.mem_cons_self ..), by have := h.len; simp at this; omega, fun x hx => h.fit x (List.mem_cons_of_mem _ hx)⟩

theorem emp_app (a b c : List D) : (c.isEmpty && (b.isEmpty && a.isEmpty)) = (a ++ (b ++ c)).isEmpty := by
  cases a <;> cases b <;> cases c <;> rfl

theorem zipR_cons (out : List D) (x : D) (o : Option (List D)) : zipR out (o.map (x :: ·)) = zipR (out ++ [x]) o := by
  cases o with
  | none => rfl
  | some z => simp [zipR]

theorem zip_ok (n m : Bool) (a b : List D) (ha : Fine a) (hb : Fine b) (h1 : a.length ≤ 300) (h2 : b.length ≤ 300) : Cl ty tab 30 [.sl 47 n a, .sl 47 m b, .fn 31 [], .fn 29 []] = zipR [] (zipF a b) := by
  obtain ⟨k, hk⟩ := rounds
  have hz : ∃ r, zipR [] (zipF a b) = some r := by cases zipF a b <;> exact ⟨_, rfl⟩
  obtain ⟨r, hr⟩ := hz
  rw [hr]
  refine s_fresh_zip k _ _ _ _ ?_
  rw [← hr]
  unfold fresh_zip
  have := iter_wf (F := fresh_zip.b0 (Cl ty tab) k) (σ := List D × List D × List D) (fun q => [.sl 47 n q.1, .sl 47 m q.2.1, .ov 47 q.2.2.isEmpty q.2.2]) (fun q => zipR q.2.2 (zipF q.1 q.2.1)) (fun q => q.1.length + q.2.1.length)
    (fun q => Fine q.1 ∧ Fine q.2.1 ∧ q.2.2.length + q.1.length + q.2.1.length ≤ 700) (fun q hq again hag => ?_) k (a, b, []) ⟨ha, hb, by simp only [List.length_nil]; omega⟩ (by simp only; omega)
  · exact this
  · obtain ⟨a, b, out⟩ := q
    obtain ⟨ha, hb, hq⟩ := hq
    simp only at ha hb hq hag ⊢
    unfold fresh_zip.b0
    cases a with
    | nil =>
      have e1 : zipF [] b = some b := by rw [zipF]
      rw [e1]
      simp only [List.length_nil] at hq
      simp (disch := omega) only [decide_true, decide_false, if_true, if_false, Bool.false_eq_true, Bool.true_eq_false, eq_self, Bool.true_or, Bool.false_or, Bool.true_and, Bool.false_and, Bool.or_true, Bool.or_false, Bool.and_true, Bool.and_false, List.getD_cons_zero, List.getD_cons_succ, cell_int, cell_bool, cell_str, cell_sl, cell_agg, i_int, b_bool, s_str, nb_sl, els_sl, nb_ov, els_ov, cs_pv, cs_agg, Int.toNat_natCast, toNat_sub1, toNat_add1, List.length_map, getD_map, ct, cf, beqd, bned, cp, cn, cnp, cnn, if_pos, if_neg, wrap64, Option.bind_some, Bool.not_true, Bool.not_false, List.isEmpty_nil, List.nil_append, List.length_nil, List.length_cons, Nat.zero_add, List.append_nil]
      cases out <;> cases b <;> rfl
    | cons x a =>
      cases b with
      | nil =>
        have e1 : zipF (x :: a) [] = some (x :: a) := by rw [zipF]
        rw [e1]
        simp only [List.length_nil, List.length_cons, List.length_append] at hq
        simp (disch := omega) only [decide_true, decide_false, if_true, if_false, Bool.false_eq_true, Bool.true_eq_false, eq_self, Bool.true_or, Bool.false_or, Bool.true_and, Bool.false_and, Bool.or_true, Bool.or_false, Bool.and_true, Bool.and_false, List.getD_cons_zero, List.getD_cons_succ, cell_int, cell_bool, cell_str, cell_sl, cell_agg, i_int, b_bool, s_str, nb_sl, els_sl, nb_ov, els_ov, cs_pv, cs_agg, Int.toNat_natCast, toNat_sub1, toNat_add1, List.length_map, getD_map, ct, cf, beqd, bned, cp, cn, cnp, cnn, if_pos, if_neg, wrap64, Option.bind_some, Bool.not_true, Bool.not_false, List.isEmpty_nil, List.nil_append, List.length_nil, List.length_cons, Nat.zero_add, List.append_nil, List.length_append]
        cases out <;> rfl
      | cons y b =>
        obtain ⟨fx, fa⟩ := fine_tail ha
        obtain ⟨fy, fb⟩ := fine_tail hb
        have ex : D.agg (etaCells ks0 x 0) = x := eta_fit fx
        have ey : D.agg (etaCells ks0 y 0) = y := eta_fit fy
        have ord := order_ok x y fx fy
        simp only [List.length_cons] at hq
        have t1 : ∀ (x : D) (l : List D), List.take (l.length + 1 - Int.toNat 1) (List.drop (Int.toNat 1) (x :: l)) = l := fun x l => by
          show l.take _ = l
          apply List.take_of_length_le
          simp
        have em : ∀ w : D, (out ++ [w]).isEmpty = false := fun w => by simp
        cases c1 : Op.bytesLess (uri x) (uri y) with
        | true =>
          have := hag (a, y :: b, out ++ [x]) ⟨fa, hb, by simp only [List.length_append, List.length_cons, List.length_nil]; omega⟩ (by simp only [List.length_cons]; omega)
          unfold cmpS at ord
          rw [c1] at ord
          have ez : zipR out (zipF (x :: a) (y :: b)) = zipR (out ++ [x]) (zipF a (y :: b)) := by rw [zipF, c1, if_pos rfl, zipR_cons]
          rw [ez]
          simp (disch := omega) only [decide_true, decide_false, if_true, if_false, Bool.false_eq_true, Bool.true_eq_false, eq_self, Bool.true_or, Bool.false_or, Bool.true_and, Bool.false_and, Bool.or_true, Bool.or_false, Bool.and_true, Bool.and_false, List.getD_cons_zero, List.getD_cons_succ, cell_int, cell_bool, cell_str, cell_sl, cell_agg, i_int, b_bool, s_str, nb_sl, els_sl, nb_ov, els_ov, cs_pv, cs_agg, Int.toNat_natCast, toNat_sub1, toNat_add1, List.length_map, getD_map, ct, cf, beqd, bned, cp, cn, cnp, cnn, if_pos, if_neg, wrap64, Option.bind_some, Bool.not_true, Bool.not_false, List.isEmpty_nil, List.nil_append, List.length_nil, List.length_cons, Nat.zero_add, ex, ey, ord, t1, em] at this ⊢
          exact this
        | false =>
          cases c2 : Op.bytesLess (uri y) (uri x) with
          | true =>
            have := hag (x :: a, b, out ++ [y]) ⟨ha, fb, by simp only [List.length_append, List.length_cons, List.length_nil]; omega⟩ (by simp only [List.length_cons]; omega)
            unfold cmpS at ord
            rw [c1, c2] at ord
            have ez : zipR out (zipF (x :: a) (y :: b)) = zipR (out ++ [y]) (zipF (x :: a) b) := by rw [zipF, c1, if_neg (by simp), c2, if_pos rfl, zipR_cons]
            rw [ez]
            simp (disch := omega) only [decide_true, decide_false, if_true, if_false, Bool.false_eq_true, Bool.true_eq_false, eq_self, Bool.true_or, Bool.false_or, Bool.true_and, Bool.false_and, Bool.or_true, Bool.or_false, Bool.and_true, Bool.and_false, List.getD_cons_zero, List.getD_cons_succ, cell_int, cell_bool, cell_str, cell_sl, cell_agg, i_int, b_bool, s_str, nb_sl, els_sl, nb_ov, els_ov, cs_pv, cs_agg, Int.toNat_natCast, toNat_sub1, toNat_add1, List.length_map, getD_map, ct, cf, beqd, bned, cp, cn, cnp, cnn, if_pos, if_neg, wrap64, Option.bind_some, Bool.not_true, Bool.not_false, List.isEmpty_nil, List.nil_append, List.length_nil, List.length_cons, Nat.zero_add, ex, ey, ord, t1, em] at this ⊢
            exact this
          | false =>
            have e0 := bl_tri _ _ c1 c2
            have jn := join_ok x y fx fy e0
            unfold cmpS at ord
            rw [c1, c2] at ord
            unfold joinR at jn
            cases j : joinF x y with
            | none =>
              rw [j] at jn
              have ez : zipR out (zipF (x :: a) (y :: b)) = some [.ov 47 true [], .bool false] := by rw [zipF, c1, if_neg (by simp), c2, if_neg (by simp), j]; rfl
              rw [ez]
              simp (disch := omega) only [decide_true, decide_false, if_true, if_false, Bool.false_eq_true, Bool.true_eq_false, eq_self, Bool.true_or, Bool.false_or, Bool.true_and, Bool.false_and, Bool.or_true, Bool.or_false, Bool.and_true, Bool.and_false, List.getD_cons_zero, List.getD_cons_succ, cell_int, cell_bool, cell_str, cell_sl, cell_agg, i_int, b_bool, s_str, nb_sl, els_sl, nb_ov, els_ov, cs_pv, cs_agg, Int.toNat_natCast, toNat_sub1, toNat_add1, List.length_map, getD_map, ct, cf, beqd, bned, cp, cn, cnp, cnn, if_pos, if_neg, wrap64, Option.bind_some, Bool.not_true, Bool.not_false, List.isEmpty_nil, List.nil_append, List.length_nil, List.length_cons, Nat.zero_add, ex, ey, ord, jn]
            | some w =>
              rw [j] at jn
              have fw : Fit w := by rcases joinF_mem j with rfl | rfl; exact fx; exact fy
              have ew : D.agg (etaCells ks0 w 0) = w := eta_fit fw
              have := hag (a, b, out ++ [w]) ⟨fa, fb, by simp only [List.length_append, List.length_cons, List.length_nil]; omega⟩ (by simp only [List.length_cons]; omega)
              have ez : zipR out (zipF (x :: a) (y :: b)) = zipR (out ++ [w]) (zipF a b) := by
                rw [zipF, c1, if_neg (by simp), c2, if_neg (by simp), j]
                exact zipR_cons out w _
              rw [ez]
              simp (disch := omega) only [decide_true, decide_false, if_true, if_false, Bool.false_eq_true, Bool.true_eq_false, eq_self, Bool.true_or, Bool.false_or, Bool.true_and, Bool.false_and, Bool.or_true, Bool.or_false, Bool.and_true, Bool.and_false, List.getD_cons_zero, List.getD_cons_succ, cell_int, cell_bool, cell_str, cell_sl, cell_agg, i_int, b_bool, s_str, nb_sl, els_sl, nb_ov, els_ov, cs_pv, cs_agg, Int.toNat_natCast, toNat_sub1, toNat_add1, List.length_map, getD_map, ct, cf, beqd, bned, cp, cn, cnp, cnn, if_pos, if_neg, wrap64, Option.bind_some, Bool.not_true, Bool.not_false, List.isEmpty_nil, List.nil_append, List.length_nil, List.length_cons, Nat.zero_add, ex, ey, ord, jn, ew, t1, em] at this ⊢
              exact this

def mergeR (a b : List D) (nb : List D → Bool) : List D :=
  if checkF a ≠ 0 then [.ov 47 true [], .int .i64 (checkF a)] else if checkF b ≠ 0 then [.ov 47 true [], .int .i64 (checkF b)] else match zipF a b with
    | none => [.ov 47 true [], .int .i64 14]
    | some z => if 200 < z.length then [.ov 47 true [], .int .i64 16] else [.ov 47 (nb z) z, .int .i64 0]

theorem merge_ok (n m : Bool) (a b : List D) (ha : Fine a) (hb : Fine b) : Cl ty tab 12 [.sl 47 n a, .sl 47 m b] = some (mergeR a b (·.isEmpty)) := by
  refine s_fresh_Merge 0 _ _ _ _ ?_
  unfold fresh_Merge mergeR
  by_cases c1 : checkF a = 0
  case neg => simp (disch := omega) only [decide_true, decide_false, if_true, if_false, Bool.false_eq_true, Bool.true_eq_false, eq_self, Bool.true_or, Bool.false_or, Bool.true_and, Bool.false_and, Bool.or_true, Bool.or_false, Bool.and_true, Bool.and_false, List.getD_cons_zero, List.getD_cons_succ, cell_int, cell_bool, cell_str, cell_sl, cell_agg, i_int, b_bool, s_str, nb_sl, els_sl, nb_ov, els_ov, cs_pv, cs_agg, Int.toNat_natCast, toNat_sub1, toNat_add1, List.length_map, getD_map, ct, cf, beqd, bned, cp, cn, cnp, cnn, if_pos, if_neg, wrap64, Option.bind_some, Bool.not_true, Bool.not_false, List.isEmpty_nil, List.nil_append, List.length_nil, List.length_cons, Nat.zero_add, check_ok n a ha, c1, ne_eq, not_false_eq_true]
  by_cases c2 : checkF b = 0
  case neg => simp (disch := omega) only [decide_true, decide_false, if_true, if_false, Bool.false_eq_true, Bool.true_eq_false, eq_self, Bool.true_or, Bool.false_or, Bool.true_and, Bool.false_and, Bool.or_true, Bool.or_false, Bool.and_true, Bool.and_false, List.getD_cons_zero, List.getD_cons_succ, cell_int, cell_bool, cell_str, cell_sl, cell_agg, i_int, b_bool, s_str, nb_sl, els_sl, nb_ov, els_ov, cs_pv, cs_agg, Int.toNat_natCast, toNat_sub1, toNat_add1, List.length_map, getD_map, ct, cf, beqd, bned, cp, cn, cnp, cnn, if_pos, if_neg, wrap64, Option.bind_some, Bool.not_true, Bool.not_false, List.isEmpty_nil, List.nil_append, List.length_nil, List.length_cons, Nat.zero_add, check_ok n a ha, check_ok m b hb, c1, c2, ne_eq, not_false_eq_true, not_true_eq_false]
  have d1 := (check_zero c1).1
  have d2 := (check_zero c2).1
  have hz := zip_ok n m a b ha hb (by omega) (by omega)
  cases hq : zipF a b with
  | none =>
    rw [hq] at hz
    unfold zipR at hz
    simp (disch := omega) only [decide_true, decide_false, if_true, if_false, Bool.false_eq_true, Bool.true_eq_false, eq_self, Bool.true_or, Bool.false_or, Bool.true_and, Bool.false_and, Bool.or_true, Bool.or_false, Bool.and_true, Bool.and_false, List.getD_cons_zero, List.getD_cons_succ, cell_int, cell_bool, cell_str, cell_sl, cell_agg, i_int, b_bool, s_str, nb_sl, els_sl, nb_ov, els_ov, cs_pv, cs_agg, Int.toNat_natCast, toNat_sub1, toNat_add1, List.length_map, getD_map, ct, cf, beqd, bned, cp, cn, cnp, cnn, if_pos, if_neg, wrap64, Option.bind_some, Bool.not_true, Bool.not_false, List.isEmpty_nil, List.nil_append, List.length_nil, List.length_cons, Nat.zero_add, check_ok n a ha, check_ok m b hb, c1, c2, ne_eq, not_true_eq_false, hz]
  | some z =>
    rw [hq] at hz
    unfold zipR at hz
    by_cases d3 : 200 < z.length
    · simp (disch := omega) only [decide_true, decide_false, if_true, if_false, Bool.false_eq_true, Bool.true_eq_false, eq_self, Bool.true_or, Bool.false_or, Bool.true_and, Bool.false_and, Bool.or_true, Bool.or_false, Bool.and_true, Bool.and_false, List.getD_cons_zero, List.getD_cons_succ, cell_int, cell_bool, cell_str, cell_sl, cell_agg, i_int, b_bool, s_str, nb_sl, els_sl, nb_ov, els_ov, cs_pv, cs_agg, Int.toNat_natCast, toNat_sub1, toNat_add1, List.length_map, getD_map, ct, cf, beqd, bned, cp, cn, cnp, cnn, if_pos, if_neg, wrap64, Option.bind_some, Bool.not_true, Bool.not_false, List.isEmpty_nil, List.nil_append, List.length_nil, List.length_cons, Nat.zero_add, check_ok n a ha, check_ok m b hb, c1, c2, ne_eq, not_true_eq_false, hz]
    · simp (disch := omega) only [decide_true, decide_false, if_true, if_false, Bool.false_eq_true, Bool.true_eq_false, eq_self, Bool.true_or, Bool.false_or, Bool.true_and, Bool.false_and, Bool.or_true, Bool.or_false, Bool.and_true, Bool.and_false, List.getD_cons_zero, List.getD_cons_succ, cell_int, cell_bool, cell_str, cell_sl, cell_agg, i_int, b_bool, s_str, nb_sl, els_sl, nb_ov, els_ov, cs_pv, cs_agg, Int.toNat_natCast, toNat_sub1, toNat_add1, List.length_map, getD_map, ct, cf, beqd, bned, cp, cn, cnp, cnn, if_pos, if_neg, wrap64, Option.bind_some, Bool.not_true, Bool.not_false, List.isEmpty_nil, List.nil_append, List.length_nil, List.length_cons, Nat.zero_add, check_ok n a ha, check_ok m b hb, c1, c2, ne_eq, not_true_eq_false, hz]

end Go.Proofs.Ytmfhhbiaghejjaa.Own
