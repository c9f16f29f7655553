import Derived.Test.YtmfhhbiaghejjaaN
namespace Go.Proofs.Ytmfhhbiaghejjaa.Own
open Go Go.Proofs.Ytmfhhbiaghejjaa.GD
set_option linter.unusedVariables false
set_option linter.unusedSimpArgs false

theorem putF_cons (d : D) (t : List D) (x : D) : putF (d :: t) x = if Op.bytesLess (uri d) (uri x) = true then d :: putF t x else x :: dropP (d :: t) (uri x) := by rw [putF]

theorem dropP_cons (d : D) (t : List D) (s : List UInt8) : dropP (d :: t) s = if uri d = s then dropP t s else d :: dropP t s := by
  unfold dropP
  rw [List.filter_cons]
  by_cases h : uri d = s <;> simp [h]

set_option maxHeartbeats 600000 in
theorem put_ok (n : Bool) (l : List D) (x : D) (hl : Fine l) (hx : Fit x) (hs : l.length ≤ 1000) : Cl ty tab 34 [.sl 47 n l, x] = some [.ov 47 false (putF l x)] := by
  obtain ⟨k, hk⟩ := rounds
  have ex : D.agg (etaCells ks0 x 0) = x := eta_fit hx
  have := s_gatepathref29_put k n l x (r := [.ov 47 false (putF l x)]) ?_
  · rwa [ex] at this
  unfold gatepathref29_put
  have := iter_wf (F := gatepathref29_put.b0 (Cl ty tab) k l) (σ := List D × Bool × Nat) (fun q => [.ov 47 q.1.isEmpty q.1, .bool q.2.1, .int .i64 q.2.2, .pv (etaCells ks0 x 0)])
    (fun q => some [.ov 47 (q.1 ++ if q.2.1 = true then dropP (l.drop q.2.2) (uri x) else putF (l.drop q.2.2) x).isEmpty (q.1 ++ if q.2.1 = true then dropP (l.drop q.2.2) (uri x) else putF (l.drop q.2.2) x)]) (fun q => l.length - q.2.2)
    (fun q => q.2.2 ≤ l.length ∧ q.1.length ≤ q.2.2 + q.2.1.toNat) (fun q hq again hag => ?_) k ([], false, 0) ⟨Nat.zero_le _, by simp⟩ (by simp only; omega)
  · have e : ([] ++ if (false : Bool) = true then dropP (l.drop 0) (uri x) else putF (l.drop 0) x) = putF l x := by simp
    simp only [e, putF_ne] at this
    exact this
  · obtain ⟨out, done, i⟩ := q
    obtain ⟨q1, q2⟩ := hq
    simp only at q1 q2 hag ⊢
    have q3 : done.toNat ≤ 1 := by cases done <;> simp
    have em : ∀ w : D, (out ++ [w]).isEmpty = false := fun w => by simp
    have ee : etaList ks0 (etaCells ks0 x 0) 0 = etaCells ks0 x 0 := etaList_eta ..
    have ea : D.agg (etaCells ks0 x 0) = x := ex
    unfold gatepathref29_put.b0
    rcases Nat.lt_or_ge i l.length with hi | hi
    · have hd := List.drop_eq_getElem_cons hi
      have e0 : ((l[i].cell 0).s).toList = uri l[i] := rfl
      have e1 : (x.cell 0).s.toList = uri x := rfl
      have hle := le_not (uri x) (uri l[i])
      have el := hl.eta hi
      cases done with
      | true =>
        by_cases c : uri l[i] = uri x
        · have := hag (out, true, i + 1) ⟨hi, by simp only [Bool.toNat_true, Bool.toNat_false] at *; omega⟩ (by simp only; omega)
          have c' : (uri l[i] == uri x) = true := by simp [c]
          have e : (out ++ if (true : Bool) = true then dropP (l.drop i) (uri x) else putF (l.drop i) x) = out ++ if (true : Bool) = true then dropP (l.drop (i + 1)) (uri x) else putF (l.drop (i + 1)) x := by rw [hd, if_pos rfl, if_pos rfl, dropP_cons, if_pos c]
          rw [e]
          simp (disch := omega) only [decide_true, decide_false, if_true, if_false, Bool.false_eq_true, Bool.true_eq_false, eq_self, Bool.true_or, Bool.false_or, Bool.true_and, Bool.false_and, Bool.or_true, Bool.or_false, Bool.and_true, Bool.and_false, List.getD_cons_zero, List.getD_cons_succ, cell_int, cell_bool, cell_str, cell_sl, cell_agg, i_int, b_bool, s_str, nb_sl, els_sl, nb_ov, els_ov, cs_pv, cs_agg, Int.toNat_natCast, toNat_sub1, toNat_add1, List.length_map, getD_map, ct, cf, beqd, bned, cp, cn, cnp, cnn, if_pos, if_neg, wrap64, Option.bind_some, Bool.not_true, Bool.not_false, List.isEmpty_nil, List.nil_append, List.length_nil, List.length_cons, Nat.zero_add, getD_get, e0, e1, p0, c', ee, Int.natCast_add, Int.natCast_one] at this ⊢
          exact this
        · have := hag (out ++ [l[i]], true, i + 1) ⟨hi, by simp only [List.length_append, List.length_cons, List.length_nil, Bool.toNat_true, Bool.toNat_false] at *; omega⟩ (by simp only; omega)
          have c' : (uri l[i] == uri x) = false := by simp [c]
          have e : (out ++ if (true : Bool) = true then dropP (l.drop i) (uri x) else putF (l.drop i) x) = out ++ [l[i]] ++ if (true : Bool) = true then dropP (l.drop (i + 1)) (uri x) else putF (l.drop (i + 1)) x := by rw [hd, if_pos rfl, if_pos rfl, dropP_cons, if_neg c]; simp
          rw [e]
          simp (disch := omega) only [decide_true, decide_false, if_true, if_false, Bool.false_eq_true, Bool.true_eq_false, eq_self, Bool.true_or, Bool.false_or, Bool.true_and, Bool.false_and, Bool.or_true, Bool.or_false, Bool.and_true, Bool.and_false, List.getD_cons_zero, List.getD_cons_succ, cell_int, cell_bool, cell_str, cell_sl, cell_agg, i_int, b_bool, s_str, nb_sl, els_sl, nb_ov, els_ov, cs_pv, cs_agg, Int.toNat_natCast, toNat_sub1, toNat_add1, List.length_map, getD_map, ct, cf, beqd, bned, cp, cn, cnp, cnn, if_pos, if_neg, wrap64, Option.bind_some, Bool.not_true, Bool.not_false, List.isEmpty_nil, List.nil_append, List.length_nil, List.length_cons, Nat.zero_add, getD_get, e0, e1, p0, c', ee, el, em, Int.natCast_add, Int.natCast_one] at this ⊢
          exact this
      | false =>
        cases c1 : Op.bytesLess (uri l[i]) (uri x) with
        | true =>
          have c : ¬ uri l[i] = uri x := fun e => by rw [e, bl_irrefl] at c1; cases c1
          have := hag (out ++ [l[i]], false, i + 1) ⟨hi, by simp only [List.length_append, List.length_cons, List.length_nil, Bool.toNat_true, Bool.toNat_false] at *; omega⟩ (by simp only; omega)
          have c' : (uri l[i] == uri x) = false := by simp [c]
          have e : (out ++ if (false : Bool) = true then dropP (l.drop i) (uri x) else putF (l.drop i) x) = out ++ [l[i]] ++ if (false : Bool) = true then dropP (l.drop (i + 1)) (uri x) else putF (l.drop (i + 1)) x := by
            rw [hd, if_neg (by simp), if_neg (by simp), putF_cons, if_pos c1]; simp
          rw [e]
          rw [c1] at hle
          simp (disch := omega) only [decide_true, decide_false, if_true, if_false, Bool.false_eq_true, Bool.true_eq_false, eq_self, Bool.true_or, Bool.false_or, Bool.true_and, Bool.false_and, Bool.or_true, Bool.or_false, Bool.and_true, Bool.and_false, List.getD_cons_zero, List.getD_cons_succ, cell_int, cell_bool, cell_str, cell_sl, cell_agg, i_int, b_bool, s_str, nb_sl, els_sl, nb_ov, els_ov, cs_pv, cs_agg, Int.toNat_natCast, toNat_sub1, toNat_add1, List.length_map, getD_map, ct, cf, beqd, bned, cp, cn, cnp, cnn, if_pos, if_neg, wrap64, Option.bind_some, Bool.not_true, Bool.not_false, List.isEmpty_nil, List.nil_append, List.length_nil, List.length_cons, Nat.zero_add, getD_get, e0, e1, p0, c', hle, ee, el, em, Int.natCast_add, Int.natCast_one] at this ⊢
          exact this
        | false =>
          rw [c1] at hle
          by_cases c : uri l[i] = uri x
          · have := hag (out ++ [x], true, i + 1) ⟨hi, by simp only [List.length_append, List.length_cons, List.length_nil, Bool.toNat_true, Bool.toNat_false] at *; omega⟩ (by simp only; omega)
            have c' : (uri l[i] == uri x) = true := by simp [c]
            have e : (out ++ if (false : Bool) = true then dropP (l.drop i) (uri x) else putF (l.drop i) x) = out ++ [x] ++ if (true : Bool) = true then dropP (l.drop (i + 1)) (uri x) else putF (l.drop (i + 1)) x := by
              rw [hd, if_neg (by simp), if_pos rfl, putF_cons, if_neg (by rw [c1]; simp), dropP_cons, if_pos c]; simp
            rw [e]
            simp (disch := omega) only [decide_true, decide_false, if_true, if_false, Bool.false_eq_true, Bool.true_eq_false, eq_self, Bool.true_or, Bool.false_or, Bool.true_and, Bool.false_and, Bool.or_true, Bool.or_false, Bool.and_true, Bool.and_false, List.getD_cons_zero, List.getD_cons_succ, cell_int, cell_bool, cell_str, cell_sl, cell_agg, i_int, b_bool, s_str, nb_sl, els_sl, nb_ov, els_ov, cs_pv, cs_agg, Int.toNat_natCast, toNat_sub1, toNat_add1, List.length_map, getD_map, ct, cf, beqd, bned, cp, cn, cnp, cnn, if_pos, if_neg, wrap64, Option.bind_some, Bool.not_true, Bool.not_false, List.isEmpty_nil, List.nil_append, List.length_nil, List.length_cons, Nat.zero_add, getD_get, e0, e1, p0, c', hle, ee, ea, el, em, Int.natCast_add, Int.natCast_one] at this ⊢
            exact this
          · have := hag (out ++ [x] ++ [l[i]], true, i + 1) ⟨hi, by simp only [List.length_append, List.length_cons, List.length_nil, Bool.toNat_true, Bool.toNat_false] at *; omega⟩ (by simp only; omega)
            have c' : (uri l[i] == uri x) = false := by simp [c]
            have em2 : (out ++ [x] ++ [l[i]]).isEmpty = false := by simp
            have e : (out ++ if (false : Bool) = true then dropP (l.drop i) (uri x) else putF (l.drop i) x) = out ++ [x] ++ [l[i]] ++ if (true : Bool) = true then dropP (l.drop (i + 1)) (uri x) else putF (l.drop (i + 1)) x := by
              rw [hd, if_neg (by simp), if_pos rfl, putF_cons, if_neg (by rw [c1]; simp), dropP_cons, if_neg c]; simp
            rw [e]
            have l1 : ((out ++ [x]).length + [l[i]].length) * 80 ≤ 140737488355328 := by simp only [List.length_append, List.length_cons, List.length_nil, Bool.toNat_false] at *; omega
            have l2 : (out.length + [x].length) * 80 ≤ 140737488355328 := by simp only [List.length_cons, List.length_nil, Bool.toNat_false] at *; omega
            simp only [em2, Int.natCast_add, Int.natCast_one] at this
            clear e hd hag em em2 q1 q2 q3
            simp (disch := omega) only [decide_true, decide_false, if_true, if_false, Bool.false_eq_true, Bool.true_eq_false, eq_self, Bool.true_or, Bool.false_or, Bool.true_and, Bool.false_and, Bool.or_true, Bool.or_false, Bool.and_true, Bool.and_false, List.getD_cons_zero, List.getD_cons_succ, cell_int, cell_bool, cell_str, cell_sl, cell_agg, i_int, b_bool, s_str, nb_sl, els_sl, nb_ov, els_ov, cs_pv, cs_agg, Int.toNat_natCast, toNat_sub1, toNat_add1, List.length_map, getD_map, ct, cf, beqd, bned, cp, cn, cnp, cnn, if_pos, if_neg, wrap64, Option.bind_some, Bool.not_true, Bool.not_false, List.isEmpty_nil, List.nil_append, List.length_nil, List.length_cons, Nat.zero_add, getD_get, e0, e1, p0, c', hle, ee, ea, el]
            exact this
    · have e : l.drop i = [] := List.drop_eq_nil_of_le hi
      have e2 : dropP [] (uri x) = [] := rfl
      have e3 : putF [] x = [x] := rfl
      rw [e, e2, e3]
      cases done with
      | true => simp (disch := omega) only [decide_true, decide_false, if_true, if_false, Bool.false_eq_true, Bool.true_eq_false, eq_self, Bool.true_or, Bool.false_or, Bool.true_and, Bool.false_and, Bool.or_true, Bool.or_false, Bool.and_true, Bool.and_false, List.getD_cons_zero, List.getD_cons_succ, cell_int, cell_bool, cell_str, cell_sl, cell_agg, i_int, b_bool, s_str, nb_sl, els_sl, nb_ov, els_ov, cs_pv, cs_agg, Int.toNat_natCast, toNat_sub1, toNat_add1, List.length_map, getD_map, ct, cf, beqd, bned, cp, cn, cnp, cnn, if_pos, if_neg, wrap64, Option.bind_some, Bool.not_true, Bool.not_false, List.isEmpty_nil, List.nil_append, List.length_nil, List.length_cons, Nat.zero_add, List.append_nil]
      | false => (simp only [Bool.toNat_true, Bool.toNat_false] at q2; simp (disch := omega) only [decide_true, decide_false, if_true, if_false, Bool.false_eq_true, Bool.true_eq_false, eq_self, Bool.true_or, Bool.false_or, Bool.true_and, Bool.false_and, Bool.or_true, Bool.or_false, Bool.and_true, Bool.and_false, List.getD_cons_zero, List.getD_cons_succ, cell_int, cell_bool, cell_str, cell_sl, cell_agg, i_int, b_bool, s_str, nb_sl, els_sl, nb_ov, els_ov, cs_pv, cs_agg, Int.toNat_natCast, toNat_sub1, toNat_add1, List.length_map, getD_map, ct, cf, beqd, bned, cp, cn, cnp, cnn, if_pos, if_neg, wrap64, Option.bind_some, Bool.not_true, Bool.not_false, List.isEmpty_nil, List.nil_append, List.length_nil, List.length_cons, Nat.zero_add, ee, ea, em])


end Go.Proofs.Ytmfhhbiaghejjaa.Own
