import Derived.Test.YtmfhhbiaghejjaaP
namespace Go.Proofs.Ytmfhhbiaghejjaa.Own
open Go Go.Proofs.Ytmfhhbiaghejjaa.GD
set_option linter.unusedVariables false
set_option linter.unusedSimpArgs false

theorem g1 (d : D) : (d.cell 1).i = num d := rfl
theorem g34 (d : D) : (d.cell 34).i = frm d := rfl
theorem g35 (d : D) : (d.cell 35).i = til d := rfl
theorem g36 (d : D) : (d.cell 36).i = seen d := rfl
theorem gh (d : D) : etaCells ks1 d 2 = hsh d := rfl
theorem g0 (d : D) : ((d.cell 0).s).toList = uri d := rfl

theorem rlook (n : Bool) (l : List D) (s : ByteArray) (hl : Fine l) (ha : Asc l) : ∃ j : Int, Cl ty tab 33 [.sl 47 n l, .str s] = some [.int .i64 j] ∧ (j < 0 ∧ look l s.toList = none ∨ ∃ (q : Nat) (h : q < l.length), j = q ∧ look l s.toList = some l[q]) := by
  obtain ⟨j, h1, h2, h3, h4, h5⟩ := rfind_ok n l s hl.len
  refine ⟨j, h1, ?_⟩
  by_cases h : j < 0
  · refine .inl ⟨h, ?_⟩
    unfold look
    rw [List.find?_eq_none]
    intro d hd
    simpa using h4.1 h d hd
  · obtain ⟨g1, g2⟩ := h5 (by omega)
    refine .inr ⟨j.toNat, g1, by omega, ?_⟩
    rw [← g2]
    exact look_of_mem ha (List.getElem_mem g1)

theorem fine_put {l : List D} {x : D} (hl : Fine l) (hx : Fit x) (h : l.length ≤ 1000) : Fine (putF l x) :=
  ⟨by have := putF_len x l; omega, fun d hd => by rcases putF_mem hd with rfl | hd; exact hx; exact hl.fit d hd⟩

def mergeW : Option (List D) → List D
  | none => [.ov 47 true [], .int .i64 14]
  | some z => if 200 < z.length then [.ov 47 true [], .int .i64 16] else [.ov 47 false z, .int .i64 0]

attribute [local irreducible] num seen frm til hsh uri

set_option maxHeartbeats 4000000 in
theorem rmerge_ok (n m : Bool) (a b : List D) (ha : Fine a) (hb : Fine b) : Cl ty tab 13 [.sl 47 n a, .sl 47 m b] = some (mergeR a b fun _ => false) := by
  obtain ⟨k, hk⟩ := rounds
  refine s_gatepathref29_Merge k _ _ _ _ ?_
  unfold gatepathref29_Merge mergeR
  by_cases c1 : checkF a = 0
  case neg => simp (disch := omega) only [decide_true, decide_false, if_true, if_false, Bool.false_eq_true, Bool.true_eq_false, eq_self, Bool.true_or, Bool.false_or, Bool.true_and, Bool.false_and, Bool.or_true, Bool.or_false, Bool.and_true, Bool.and_false, List.getD_cons_zero, List.getD_cons_succ, cell_int, cell_bool, cell_str, cell_sl, cell_agg, i_int, b_bool, s_str, nb_sl, els_sl, nb_ov, els_ov, cs_pv, cs_agg, Int.toNat_natCast, toNat_sub1, toNat_add1, List.length_map, getD_map, ct, cf, beqd, bned, cp, cn, cnp, cnn, if_pos, if_neg, wrap64, Option.bind_some, Bool.not_true, Bool.not_false, List.isEmpty_nil, List.nil_append, List.length_nil, List.length_cons, Nat.zero_add, rcheck_ok n a ha, c1, ne_eq, not_false_eq_true]
  by_cases c2 : checkF b = 0
  case neg => simp (disch := omega) only [decide_true, decide_false, if_true, if_false, Bool.false_eq_true, Bool.true_eq_false, eq_self, Bool.true_or, Bool.false_or, Bool.true_and, Bool.false_and, Bool.or_true, Bool.or_false, Bool.and_true, Bool.and_false, List.getD_cons_zero, List.getD_cons_succ, cell_int, cell_bool, cell_str, cell_sl, cell_agg, i_int, b_bool, s_str, nb_sl, els_sl, nb_ov, els_ov, cs_pv, cs_agg, Int.toNat_natCast, toNat_sub1, toNat_add1, List.length_map, getD_map, ct, cf, beqd, bned, cp, cn, cnp, cnn, if_pos, if_neg, wrap64, Option.bind_some, Bool.not_true, Bool.not_false, List.isEmpty_nil, List.nil_append, List.length_nil, List.length_cons, Nat.zero_add, rcheck_ok n a ha, rcheck_ok m b hb, c1, c2, ne_eq, not_false_eq_true, not_true_eq_false]
  obtain ⟨d1, d2, _⟩ := check_zero c1
  obtain ⟨d3, d4, _⟩ := check_zero c2
  simp (disch := omega) only [decide_true, decide_false, if_true, if_false, Bool.false_eq_true, Bool.true_eq_false, eq_self, Bool.true_or, Bool.false_or, Bool.true_and, Bool.false_and, Bool.or_true, Bool.or_false, Bool.and_true, Bool.and_false, List.getD_cons_zero, List.getD_cons_succ, cell_int, cell_bool, cell_str, cell_sl, cell_agg, i_int, b_bool, s_str, nb_sl, els_sl, nb_ov, els_ov, cs_pv, cs_agg, Int.toNat_natCast, toNat_sub1, toNat_add1, List.length_map, getD_map, ct, cf, beqd, bned, cp, cn, cnp, cnn, if_pos, if_neg, wrap64, Option.bind_some, Bool.not_true, Bool.not_false, List.isEmpty_nil, List.nil_append, List.length_nil, List.length_cons, Nat.zero_add, rcheck_ok n a ha, rcheck_ok m b hb, c1, c2, ne_eq, not_true_eq_false]
  have hm := merge_eq d2 d4
  have := iter_wf (F := gatepathref29_Merge.b0 (Cl ty tab) k n a b) (σ := List D × Nat) (fun q => [.ov 47 false q.1, .int .i64 q.2])
    (fun q => some (mergeW (mergeV a (b.drop q.2) q.1))) (fun q => b.length - q.2)
    (fun q => q.2 ≤ b.length ∧ q.1.length ≤ 200 + q.2 ∧ Fine q.1) (fun q hq again hag => ?_) k (a, 0) ⟨Nat.zero_le _, by simp only; omega, ha⟩ (by simp only; omega)
  · have e : mergeW (mergeV a (b.drop 0) a) = mergeW (zipF a b) := by rw [← hm]; rfl
    simp only [e] at this
    refine Eq.trans this ?_
    unfold mergeW
    cases zipF a b <;> rfl
  · obtain ⟨out, i⟩ := q
    obtain ⟨q1, q2, q3⟩ := hq
    simp only at q1 q2 q3 hag ⊢
    unfold gatepathref29_Merge.b0
    rcases Nat.lt_or_ge i b.length with hi | hi
    · have hd := List.drop_eq_getElem_cons hi
      have hf := hb.fit _ (List.getElem_mem hi)
      have eb := hb.eta hi
      have hp := put_ok false out b[i] q3 hf (by omega)
      have hlen := putF_len b[i] out
      obtain ⟨j, hj, hj2⟩ := rlook n a (b[i].cell 0).s ha d2
      have hnext1 := hag (putF out b[i], i + 1) ⟨hi, by simp only; omega, fine_put q3 hf (by omega)⟩ (by simp only; omega)
      have hnext2 := hag (out, i + 1) ⟨hi, by simp only; omega, q3⟩ (by simp only; omega)
      rw [hd]
      clear hd hag hm hlen
      rw [g0] at hj2
      rcases hj2 with ⟨k1, g2⟩ | ⟨q, k1, rfl, g2⟩
      · have e : mergeV a (b[i] :: b.drop (i + 1)) out = mergeV a (b.drop (i + 1)) (putF out b[i]) := by
          rw [mergeV]; simp only [g2]
        rw [e]
        clear e hnext2
        simp (disch := omega) only [decide_true, decide_false, if_true, if_false, Bool.false_eq_true, Bool.true_eq_false, eq_self, Bool.true_or, Bool.false_or, Bool.true_and, Bool.false_and, Bool.or_true, Bool.or_false, Bool.and_true, Bool.and_false, List.getD_cons_zero, List.getD_cons_succ, cell_int, cell_bool, cell_str, cell_sl, cell_agg, i_int, b_bool, s_str, nb_sl, els_sl, nb_ov, els_ov, cs_pv, cs_agg, Int.toNat_natCast, toNat_sub1, toNat_add1, List.length_map, getD_map, ct, cf, beqd, bned, cp, cn, cnp, cnn, if_pos, if_neg, wrap64, Option.bind_some, Bool.not_true, Bool.not_false, List.isEmpty_nil, List.nil_append, List.length_nil, List.length_cons, Nat.zero_add, getD_get, eb, hj, hp, Int.natCast_add, Int.natCast_one] at hnext1 ⊢
        exact hnext1
      · have e : mergeV a (b[i] :: b.drop (i + 1)) out = match joinF a[q] b[i] with | none => none | some _ => mergeV a (b.drop (i + 1)) (if newer a[q] b[i] then putF out b[i] else out) := by
          rw [mergeV]; simp only [g2]; rfl
        rw [e]
        clear e
        have hn : newer a[q] b[i] ↔ (num a[q] < num b[i] ∨ num a[q] = num b[i] ∧ seen a[q] < seen b[i]) := Iff.rfl
        by_cases k1 : num b[i] < num a[q]
        · have e2 : joinF a[q] b[i] = some a[q] := by unfold joinF; rw [if_pos k1]
          have e3 : ¬ newer a[q] b[i] := fun h => by have := hn.1 h; omega
          simp only [e2, if_neg e3]
          clear e2 e3 hn hnext1
          simp (disch := omega) only [decide_true, decide_false, if_true, if_false, Bool.false_eq_true, Bool.true_eq_false, eq_self, Bool.true_or, Bool.false_or, Bool.true_and, Bool.false_and, Bool.or_true, Bool.or_false, Bool.and_true, Bool.and_false, List.getD_cons_zero, List.getD_cons_succ, cell_int, cell_bool, cell_str, cell_sl, cell_agg, i_int, b_bool, s_str, nb_sl, els_sl, nb_ov, els_ov, cs_pv, cs_agg, Int.toNat_natCast, toNat_sub1, toNat_add1, List.length_map, getD_map, ct, cf, beqd, bned, cp, cn, cnp, cnn, if_pos, if_neg, wrap64, Option.bind_some, Bool.not_true, Bool.not_false, List.isEmpty_nil, List.nil_append, List.length_nil, List.length_cons, Nat.zero_add, getD_get, eb, hj, g1, g34, g35, g36, Int.natCast_add, Int.natCast_one] at hnext2 ⊢
          exact hnext2
        · by_cases k2 : num a[q] < num b[i]
          · have e2 : joinF a[q] b[i] = some b[i] := by unfold joinF; rw [if_neg k1, if_pos k2]
            have e3 : newer a[q] b[i] := hn.2 (by omega)
            simp only [e2, if_pos e3]
            clear e2 e3 hn hnext2
            simp (disch := omega) only [decide_true, decide_false, if_true, if_false, Bool.false_eq_true, Bool.true_eq_false, eq_self, Bool.true_or, Bool.false_or, Bool.true_and, Bool.false_and, Bool.or_true, Bool.or_false, Bool.and_true, Bool.and_false, List.getD_cons_zero, List.getD_cons_succ, cell_int, cell_bool, cell_str, cell_sl, cell_agg, i_int, b_bool, s_str, nb_sl, els_sl, nb_ov, els_ov, cs_pv, cs_agg, Int.toNat_natCast, toNat_sub1, toNat_add1, List.length_map, getD_map, ct, cf, beqd, bned, cp, cn, cnp, cnn, if_pos, if_neg, wrap64, Option.bind_some, Bool.not_true, Bool.not_false, List.isEmpty_nil, List.nil_append, List.length_nil, List.length_cons, Nat.zero_add, getD_get, eb, hj, hp, g1, g34, g35, g36, Int.natCast_add, Int.natCast_one] at hnext1 ⊢
            exact hnext1
          · have k3 : num a[q] = num b[i] := by omega
            cases h3 : eqCells (hsh a[q]) (hsh b[i]) with
            | false =>
              have e2 : joinF a[q] b[i] = none := by unfold joinF cmpt; rw [if_neg k1, if_neg k2, h3]; rfl
              simp only [e2]
              clear e2 hn hnext1 hnext2
              simp (disch := omega) only [decide_true, decide_false, if_true, if_false, Bool.false_eq_true, Bool.true_eq_false, eq_self, Bool.true_or, Bool.false_or, Bool.true_and, Bool.false_and, Bool.or_true, Bool.or_false, Bool.and_true, Bool.and_false, List.getD_cons_zero, List.getD_cons_succ, cell_int, cell_bool, cell_str, cell_sl, cell_agg, i_int, b_bool, s_str, nb_sl, els_sl, nb_ov, els_ov, cs_pv, cs_agg, Int.toNat_natCast, toNat_sub1, toNat_add1, List.length_map, getD_map, ct, cf, beqd, bned, cp, cn, cnp, cnn, if_pos, if_neg, wrap64, Option.bind_some, Bool.not_true, Bool.not_false, List.isEmpty_nil, List.nil_append, List.length_nil, List.length_cons, Nat.zero_add, getD_get, hj, g1, gh, h3, mergeW]
            | true =>
              cases h4 : ((frm a[q] == frm b[i]) && (til a[q] == til b[i])) with
              | false =>
                have hb : (decide (frm a[q] = frm b[i]) && decide (til a[q] = til b[i])) = false := h4
                have e2 : joinF a[q] b[i] = none := by unfold joinF cmpt; rw [if_neg k1, if_neg k2, h3, h4]; rfl
                simp only [e2]
                clear e2 hn hnext1 hnext2
                simp (disch := omega) only [decide_true, decide_false, if_true, if_false, Bool.false_eq_true, Bool.true_eq_false, eq_self, Bool.true_or, Bool.false_or, Bool.true_and, Bool.false_and, Bool.or_true, Bool.or_false, Bool.and_true, Bool.and_false, List.getD_cons_zero, List.getD_cons_succ, cell_int, cell_bool, cell_str, cell_sl, cell_agg, i_int, b_bool, s_str, nb_sl, els_sl, nb_ov, els_ov, cs_pv, cs_agg, Int.toNat_natCast, toNat_sub1, toNat_add1, List.length_map, getD_map, ct, cf, beqd, bned, cp, cn, cnp, cnn, if_pos, if_neg, wrap64, Option.bind_some, Bool.not_true, Bool.not_false, List.isEmpty_nil, List.nil_append, List.length_nil, List.length_cons, Nat.zero_add, getD_get, hj, g1, g34, g35, gh, h3, hb, mergeW]
              | true =>
                have hb : (decide (frm a[q] = frm b[i]) && decide (til a[q] = til b[i])) = true := h4
                have e2 : joinF a[q] b[i] = some (if seen a[q] < seen b[i] then b[i] else a[q]) := by unfold joinF cmpt; rw [if_neg k1, if_neg k2, h3, h4]; rfl
                simp only [e2]
                by_cases h5 : seen a[q] < seen b[i]
                · have e3 : newer a[q] b[i] := hn.2 (by omega)
                  rw [if_pos e3]
                  clear e2 e3 hn hnext2
                  simp (disch := omega) only [decide_true, decide_false, if_true, if_false, Bool.false_eq_true, Bool.true_eq_false, eq_self, Bool.true_or, Bool.false_or, Bool.true_and, Bool.false_and, Bool.or_true, Bool.or_false, Bool.and_true, Bool.and_false, List.getD_cons_zero, List.getD_cons_succ, cell_int, cell_bool, cell_str, cell_sl, cell_agg, i_int, b_bool, s_str, nb_sl, els_sl, nb_ov, els_ov, cs_pv, cs_agg, Int.toNat_natCast, toNat_sub1, toNat_add1, List.length_map, getD_map, ct, cf, beqd, bned, cp, cn, cnp, cnn, if_pos, if_neg, wrap64, Option.bind_some, Bool.not_true, Bool.not_false, List.isEmpty_nil, List.nil_append, List.length_nil, List.length_cons, Nat.zero_add, getD_get, eb, hj, hp, g1, g34, g35, g36, gh, h3, hb, Int.natCast_add, Int.natCast_one] at hnext1 ⊢
                  exact hnext1
                · have e3 : ¬ newer a[q] b[i] := fun h => by have := hn.1 h; omega
                  rw [if_neg e3]
                  clear e2 e3 hn hnext1
                  simp (disch := omega) only [decide_true, decide_false, if_true, if_false, Bool.false_eq_true, Bool.true_eq_false, eq_self, Bool.true_or, Bool.false_or, Bool.true_and, Bool.false_and, Bool.or_true, Bool.or_false, Bool.and_true, Bool.and_false, List.getD_cons_zero, List.getD_cons_succ, cell_int, cell_bool, cell_str, cell_sl, cell_agg, i_int, b_bool, s_str, nb_sl, els_sl, nb_ov, els_ov, cs_pv, cs_agg, Int.toNat_natCast, toNat_sub1, toNat_add1, List.length_map, getD_map, ct, cf, beqd, bned, cp, cn, cnp, cnn, if_pos, if_neg, wrap64, Option.bind_some, Bool.not_true, Bool.not_false, List.isEmpty_nil, List.nil_append, List.length_nil, List.length_cons, Nat.zero_add, getD_get, eb, hj, hp, g1, g34, g35, g36, gh, h3, hb, Int.natCast_add, Int.natCast_one] at hnext2 ⊢
                  exact hnext2
    · have e : b.drop i = [] := List.drop_eq_nil_of_le hi
      rw [e]
      unfold mergeV mergeW
      by_cases h : 200 < out.length
      · simp (disch := omega) only [decide_true, decide_false, if_true, if_false, Bool.false_eq_true, Bool.true_eq_false, eq_self, Bool.true_or, Bool.false_or, Bool.true_and, Bool.false_and, Bool.or_true, Bool.or_false, Bool.and_true, Bool.and_false, List.getD_cons_zero, List.getD_cons_succ, cell_int, cell_bool, cell_str, cell_sl, cell_agg, i_int, b_bool, s_str, nb_sl, els_sl, nb_ov, els_ov, cs_pv, cs_agg, Int.toNat_natCast, toNat_sub1, toNat_add1, List.length_map, getD_map, ct, cf, beqd, bned, cp, cn, cnp, cnn, if_pos, if_neg, wrap64, Option.bind_some, Bool.not_true, Bool.not_false, List.isEmpty_nil, List.nil_append, List.length_nil, List.length_cons, Nat.zero_add]
      · simp (disch := omega) only [decide_true, decide_false, if_true, if_false, Bool.false_eq_true, Bool.true_eq_false, eq_self, Bool.true_or, Bool.false_or, Bool.true_and, Bool.false_and, Bool.or_true, Bool.or_false, Bool.and_true, Bool.and_false, List.getD_cons_zero, List.getD_cons_succ, cell_int, cell_bool, cell_str, cell_sl, cell_agg, i_int, b_bool, s_str, nb_sl, els_sl, nb_ov, els_ov, cs_pv, cs_agg, Int.toNat_natCast, toNat_sub1, toNat_add1, List.length_map, getD_map, ct, cf, beqd, bned, cp, cn, cnp, cnn, if_pos, if_neg, wrap64, Option.bind_some, Bool.not_true, Bool.not_false, List.isEmpty_nil, List.nil_append, List.length_nil, List.length_cons, Nat.zero_add]

end Go.Proofs.Ytmfhhbiaghejjaa.Own
