import Derived.Test.YtklbnnkdkkcgoaaShp
namespace Go.Proofs.Ytklbnnkdkkcgoaa.Own
open Go Go.Proofs.Ytklbnnkdkkcgoaa.GD
set_option linter.unusedVariables false
set_option linter.unusedSimpArgs false

def ch (l : List At) (s : Bool) : List Int → Bool
  | x :: y :: t => good l s x y && ch l s (y :: t)
  | _ => true

theorem ch_cF (l : List At) (s : Bool) : ∀ (a : List Int), ch l s a = true ↔ a.length ≤ cF l (badS s) a
  | [] => by simp [ch]
  | [x] => by simp [ch, cF]
  | x :: y :: t => by
    rw [ch, cF, Bool.and_eq_true, ch_cF l s (y :: t)]
    unfold good
    cases badS s (hopF l x y) <;> simp

theorem down_shape (l : List At) (a : List Int) : downF l a = if shapeF l false a.reverse = false then 2 else if shapeF l true a.reverse = true then 1 else 0 := by
  have e1 : badS false = notH := rfl
  have e2 : badS true = doubtH := rfl
  unfold downF shapeF
  rw [e1, e2, List.reverse_reverse, List.length_reverse]
  by_cases h1 : a.length = 0 ∨ cF l notH a.reverse + cF l notH a < a.length
  · have d1 : decide (0 < a.length ∧ a.length ≤ cF l notH a.reverse + cF l notH a) = false := by rw [decide_eq_false_iff_not]; omega
    rw [if_pos h1, d1, if_pos rfl]
  · have d1 : decide (0 < a.length ∧ a.length ≤ cF l notH a.reverse + cF l notH a) = true := by rw [decide_eq_true_eq]; omega
    rw [if_neg h1, d1, if_neg (show ¬ (true = false) by decide)]
    by_cases h2 : a.length ≤ cF l doubtH a.reverse + cF l doubtH a
    · have d2 : decide (0 < a.length ∧ a.length ≤ cF l doubtH a.reverse + cF l doubtH a) = true := by rw [decide_eq_true_eq]; omega
      rw [if_pos h2, d2, if_pos rfl]
    · have d2 : decide (0 < a.length ∧ a.length ≤ cF l doubtH a.reverse + cF l doubtH a) = false := by rw [decide_eq_false_iff_not]; omega
      rw [if_neg h2, d2, if_neg (show ¬ (false = true) by decide)]

theorem up_ch (l : List At) (a : List Int) : upF l a = if a.length = 0 ∨ ch l false a.reverse = false then 2 else if ch l true a.reverse = true then 1 else 0 := by
  have e1 : badS false = notH := rfl
  have e2 : badS true = doubtH := rfl
  have h1 := ch_cF l false a.reverse
  have h2 := ch_cF l true a.reverse
  have h3 := cF_le l doubtH a.reverse
  rw [e1, List.length_reverse] at h1
  rw [e2, List.length_reverse] at h2
  rw [List.length_reverse] at h3
  unfold upF
  have g1 : cF l notH a.reverse < a.length ↔ ch l false a.reverse = false := by
    rw [← Bool.not_eq_true, h1]; omega
  have g2 : cF l doubtH a.reverse = a.length ↔ ch l true a.reverse = true := by rw [h2]; omega
  simp only [g1, g2]

set_option maxHeartbeats 4000000 in
theorem leakShapes_cl (n : Bool) (l : List At) (m : Bool) (L : List Int) (hl : Fine l) (hm : m = true → L = []) :
    Cl ty tab 8 [.sl 46 n (l.map At.d), .sl 23 m (U L)] = some [.bool true] := by
  obtain ⟨k, hk⟩ := rounds
  refine s_gatepathlaw41_LeakShapes k _ _ _ _ ?_
  unfold gatepathlaw41_LeakShapes
  simp (disch := omega) only [decide_true, decide_false, if_true, if_false, Bool.false_eq_true, Bool.true_eq_false, eq_self, Bool.true_or, Bool.false_or, Bool.true_and, Bool.false_and, Bool.or_true, Bool.or_false, Bool.and_true, Bool.and_false, List.getD_cons_zero, List.getD_cons_succ, cell_int, cell_bool, cell_str, cell_sl, cell_agg, i_int, b_bool, s_str, nb_sl, els_sl, nb_ov, els_ov, cs_pv, cs_agg, Int.toNat_natCast, toNat_sub1, toNat_add1, List.length_map, getD_map, ct, cf, beqd, bned, cp, cn, cnp, cnn, if_pos, if_neg, wrap64, Option.bind_some, Bool.not_true, Bool.not_false, List.isEmpty_nil, List.nil_append, List.length_nil, List.length_cons, Nat.zero_add, alive_ok, great_ok n l hl.len]
  cases hg : greatF l
  case true => simp (disch := omega) only [decide_true, decide_false, if_true, if_false, Bool.false_eq_true, Bool.true_eq_false, eq_self, Bool.true_or, Bool.false_or, Bool.true_and, Bool.false_and, Bool.or_true, Bool.or_false, Bool.and_true, Bool.and_false, List.getD_cons_zero, List.getD_cons_succ, cell_int, cell_bool, cell_str, cell_sl, cell_agg, i_int, b_bool, s_str, nb_sl, els_sl, nb_ov, els_ov, cs_pv, cs_agg, Int.toNat_natCast, toNat_sub1, toNat_add1, List.length_map, getD_map, ct, cf, beqd, bned, cp, cn, cnp, cnn, if_pos, if_neg, wrap64, Option.bind_some, Bool.not_true, Bool.not_false, List.isEmpty_nil, List.nil_append, List.length_nil, List.length_cons, Nat.zero_add]
  by_cases hc : checkF l = 0
  case neg => simp (disch := omega) only [decide_true, decide_false, if_true, if_false, Bool.false_eq_true, Bool.true_eq_false, eq_self, Bool.true_or, Bool.false_or, Bool.true_and, Bool.false_and, Bool.or_true, Bool.or_false, Bool.and_true, Bool.and_false, List.getD_cons_zero, List.getD_cons_succ, cell_int, cell_bool, cell_str, cell_sl, cell_agg, i_int, b_bool, s_str, nb_sl, els_sl, nb_ov, els_ov, cs_pv, cs_agg, Int.toNat_natCast, toNat_sub1, toNat_add1, List.length_map, getD_map, ct, cf, beqd, bned, cp, cn, cnp, cnn, if_pos, if_neg, wrap64, Option.bind_some, Bool.not_true, Bool.not_false, List.isEmpty_nil, List.nil_append, List.length_nil, List.length_cons, Nat.zero_add, rcheck_ok n l hl]
  by_cases g4 : 30 < L.length
  · simp (disch := omega) only [decide_true, decide_false, if_true, if_false, Bool.false_eq_true, Bool.true_eq_false, eq_self, Bool.true_or, Bool.false_or, Bool.true_and, Bool.false_and, Bool.or_true, Bool.or_false, Bool.and_true, Bool.and_false, List.getD_cons_zero, List.getD_cons_succ, cell_int, cell_bool, cell_str, cell_sl, cell_agg, i_int, b_bool, s_str, nb_sl, els_sl, nb_ov, els_ov, cs_pv, cs_agg, Int.toNat_natCast, toNat_sub1, toNat_add1, List.length_map, getD_map, ct, cf, beqd, bned, cp, cn, cnp, cnn, if_pos, if_neg, wrap64, Option.bind_some, Bool.not_true, Bool.not_false, List.isEmpty_nil, List.nil_append, List.length_nil, List.length_cons, Nat.zero_add, rcheck_ok n l hl, hc, ne_eq, not_true_eq_false]
  have hq := sq_len L
  have rt := fun s x y => right_ok n l s x y hl hc
  have he : errF l L = 0 := by unfold errF; rw [if_pos hc, if_neg (by omega)]
  have sh := fun s => shaped_ok n L.isEmpty l s (sqF L).reverse hl hc (by simp; omega)
  simp (disch := omega) only [decide_true, decide_false, if_true, if_false, Bool.false_eq_true, Bool.true_eq_false, eq_self, Bool.true_or, Bool.false_or, Bool.true_and, Bool.false_and, Bool.or_true, Bool.or_false, Bool.and_true, Bool.and_false, List.getD_cons_zero, List.getD_cons_succ, cell_int, cell_bool, cell_str, cell_sl, cell_agg, i_int, b_bool, s_str, nb_sl, els_sl, nb_ov, els_ov, cs_pv, cs_agg, Int.toNat_natCast, toNat_sub1, toNat_add1, List.length_map, getD_map, ct, cf, beqd, bned, cp, cn, cnp, cnn, if_pos, if_neg, wrap64, Option.bind_some, Bool.not_true, Bool.not_false, List.isEmpty_nil, List.nil_append, List.length_nil, List.length_cons, Nat.zero_add, rcheck_ok n l hl, hc, ne_eq, not_true_eq_false, rup_ok m L (by omega), sh]
  have us := upstream_ok n m l L hl (by omega) hm
  have ds := downstream_ok n m l L hl (by omega) hm
  rw [he, tell, if_pos rfl] at us ds
  rw [up_ch] at us
  have loop : ∀ (b : List D → (List D → Option (List D)) → Option (List D)) (w : Int), downF l (sqF L) = w →
      ((w = 2 ∧ b = gatepathlaw41_LeakShapes.b0 (Cl ty tab) k n (l.map At.d) m (U L) [.bool true] [.ov 23 L.isEmpty (U (sqF L).reverse)]) ∨
       (w = 1 ∧ b = gatepathlaw41_LeakShapes.b0_1 (Cl ty tab) k n (l.map At.d) m (U L) [.bool true] [.ov 23 L.isEmpty (U (sqF L).reverse)]) ∨
       (w = 2 ∧ b = gatepathlaw41_LeakShapes.b0_2 (Cl ty tab) k n (l.map At.d) m (U L) [.bool true] [.ov 23 L.isEmpty (U (sqF L).reverse)]) ∨
       (w = 0 ∧ b = gatepathlaw41_LeakShapes.b0_3 (Cl ty tab) k n (l.map At.d) m (U L) [.bool true] [.ov 23 L.isEmpty (U (sqF L).reverse)])) →
      iter k b [.bool true, .bool true, .int .i64 0, .ov 23 L.isEmpty (U (sqF L).reverse)] = some [.bool true] := by
    intro b w hw hb
    have := iter_wf (F := b) (σ := Bool × Bool × Nat) (fun q => [.bool q.1, .bool q.2.1, .int .i64 q.2.2, .ov 23 L.isEmpty (U (sqF L).reverse)]) (fun _ => some [.bool true]) (fun q => (sqF L).length - q.2.2)
      (fun q => q.2.2 ≤ (sqF L).length ∧ (q.1 && ch l false ((sqF L).reverse.drop q.2.2)) = ch l false (sqF L).reverse ∧ (q.2.1 && ch l true ((sqF L).reverse.drop q.2.2)) = ch l true (sqF L).reverse) (fun q hq again hag => ?_) k (true, true, 0) ⟨Nat.zero_le _, by simp, by simp⟩ (by simp only; omega)
    · exact this
    · obtain ⟨f, s, i⟩ := q
      simp only at hq hag
      obtain ⟨q1, q2, q3⟩ := hq
      generalize ha : (sqF L).reverse = a at *
      have hal : (sqF L).length = a.length := by rw [← ha]; simp
      rw [hal] at q1 us hq
      simp only [hal] at hag
      by_cases hlt : i + 1 < a.length
      · rw [drop2 hlt, ch, ← List.drop_eq_getElem_cons hlt] at q2 q3
        have hn := hag (f && good l false a[i] a[i + 1], s && good l true a[i] a[i + 1], i + 1) ⟨by simp only; omega, by simp only; rw [← q2, Bool.and_assoc], by simp only; rw [← q3, Bool.and_assoc]⟩ (by simp only; omega)
        rcases hb with ⟨_, rfl⟩ | ⟨_, rfl⟩ | ⟨_, rfl⟩ | ⟨_, rfl⟩
        · unfold gatepathlaw41_LeakShapes.b0
          cases f <;> cases s <;> simp (disch := omega) only [decide_true, decide_false, if_true, if_false, Bool.false_eq_true, Bool.true_eq_false, eq_self, Bool.true_or, Bool.false_or, Bool.true_and, Bool.false_and, Bool.or_true, Bool.or_false, Bool.and_true, Bool.and_false, List.getD_cons_zero, List.getD_cons_succ, cell_int, cell_bool, cell_str, cell_sl, cell_agg, i_int, b_bool, s_str, nb_sl, els_sl, nb_ov, els_ov, cs_pv, cs_agg, Int.toNat_natCast, toNat_sub1, toNat_add1, List.length_map, getD_map, ct, cf, beqd, bned, cp, cn, cnp, cnn, if_pos, if_neg, wrap64, Option.bind_some, Bool.not_true, Bool.not_false, List.isEmpty_nil, List.nil_append, List.length_nil, List.length_cons, Nat.zero_add, rt, Int.natCast_add, Int.natCast_one] at hn ⊢ <;> exact hn
        · unfold gatepathlaw41_LeakShapes.b0_1
          cases f <;> cases s <;> simp (disch := omega) only [decide_true, decide_false, if_true, if_false, Bool.false_eq_true, Bool.true_eq_false, eq_self, Bool.true_or, Bool.false_or, Bool.true_and, Bool.false_and, Bool.or_true, Bool.or_false, Bool.and_true, Bool.and_false, List.getD_cons_zero, List.getD_cons_succ, cell_int, cell_bool, cell_str, cell_sl, cell_agg, i_int, b_bool, s_str, nb_sl, els_sl, nb_ov, els_ov, cs_pv, cs_agg, Int.toNat_natCast, toNat_sub1, toNat_add1, List.length_map, getD_map, ct, cf, beqd, bned, cp, cn, cnp, cnn, if_pos, if_neg, wrap64, Option.bind_some, Bool.not_true, Bool.not_false, List.isEmpty_nil, List.nil_append, List.length_nil, List.length_cons, Nat.zero_add, rt, Int.natCast_add, Int.natCast_one] at hn ⊢ <;> exact hn
        · unfold gatepathlaw41_LeakShapes.b0_2
          cases f <;> cases s <;> simp (disch := omega) only [decide_true, decide_false, if_true, if_false, Bool.false_eq_true, Bool.true_eq_false, eq_self, Bool.true_or, Bool.false_or, Bool.true_and, Bool.false_and, Bool.or_true, Bool.or_false, Bool.and_true, Bool.and_false, List.getD_cons_zero, List.getD_cons_succ, cell_int, cell_bool, cell_str, cell_sl, cell_agg, i_int, b_bool, s_str, nb_sl, els_sl, nb_ov, els_ov, cs_pv, cs_agg, Int.toNat_natCast, toNat_sub1, toNat_add1, List.length_map, getD_map, ct, cf, beqd, bned, cp, cn, cnp, cnn, if_pos, if_neg, wrap64, Option.bind_some, Bool.not_true, Bool.not_false, List.isEmpty_nil, List.nil_append, List.length_nil, List.length_cons, Nat.zero_add, rt, Int.natCast_add, Int.natCast_one] at hn ⊢ <;> exact hn
        · unfold gatepathlaw41_LeakShapes.b0_3
          cases f <;> cases s <;> simp (disch := omega) only [decide_true, decide_false, if_true, if_false, Bool.false_eq_true, Bool.true_eq_false, eq_self, Bool.true_or, Bool.false_or, Bool.true_and, Bool.false_and, Bool.or_true, Bool.or_false, Bool.and_true, Bool.and_false, List.getD_cons_zero, List.getD_cons_succ, cell_int, cell_bool, cell_str, cell_sl, cell_agg, i_int, b_bool, s_str, nb_sl, els_sl, nb_ov, els_ov, cs_pv, cs_agg, Int.toNat_natCast, toNat_sub1, toNat_add1, List.length_map, getD_map, ct, cf, beqd, bned, cp, cn, cnp, cnn, if_pos, if_neg, wrap64, Option.bind_some, Bool.not_true, Bool.not_false, List.isEmpty_nil, List.nil_append, List.length_nil, List.length_cons, Nat.zero_add, rt, Int.natCast_add, Int.natCast_one] at hn ⊢ <;> exact hn
      · have e : ∀ s, ch l s (a.drop i) = true := by
          intro s
          rcases Nat.lt_or_ge i a.length with h | h
          · rw [List.drop_eq_getElem_cons h, List.drop_eq_nil_of_le (by omega)]; rfl
          · rw [List.drop_eq_nil_of_le h]; rfl
        rw [e, Bool.and_true] at q2 q3
        rw [← q2, ← q3] at us
        rw [hw] at ds
        clear hag q2 q3 e
        by_cases h0 : a.length = 0
        · rcases hb with ⟨rfl, rfl⟩ | ⟨rfl, rfl⟩ | ⟨rfl, rfl⟩ | ⟨rfl, rfl⟩
          · unfold gatepathlaw41_LeakShapes.b0
            cases f <;> cases s <;> simp (disch := omega) only [decide_true, decide_false, if_true, if_false, Bool.false_eq_true, Bool.true_eq_false, eq_self, Bool.true_or, Bool.false_or, Bool.true_and, Bool.false_and, Bool.or_true, Bool.or_false, Bool.and_true, Bool.and_false, List.getD_cons_zero, List.getD_cons_succ, cell_int, cell_bool, cell_str, cell_sl, cell_agg, i_int, b_bool, s_str, nb_sl, els_sl, nb_ov, els_ov, cs_pv, cs_agg, Int.toNat_natCast, toNat_sub1, toNat_add1, List.length_map, getD_map, ct, cf, beqd, bned, cp, cn, cnp, cnn, if_pos, if_neg, wrap64, Option.bind_some, Bool.not_true, Bool.not_false, List.isEmpty_nil, List.nil_append, List.length_nil, List.length_cons, Nat.zero_add, us, ds, h0, true_or, Int.natCast_zero]
          · unfold gatepathlaw41_LeakShapes.b0_1
            cases f <;> cases s <;> simp (disch := omega) only [decide_true, decide_false, if_true, if_false, Bool.false_eq_true, Bool.true_eq_false, eq_self, Bool.true_or, Bool.false_or, Bool.true_and, Bool.false_and, Bool.or_true, Bool.or_false, Bool.and_true, Bool.and_false, List.getD_cons_zero, List.getD_cons_succ, cell_int, cell_bool, cell_str, cell_sl, cell_agg, i_int, b_bool, s_str, nb_sl, els_sl, nb_ov, els_ov, cs_pv, cs_agg, Int.toNat_natCast, toNat_sub1, toNat_add1, List.length_map, getD_map, ct, cf, beqd, bned, cp, cn, cnp, cnn, if_pos, if_neg, wrap64, Option.bind_some, Bool.not_true, Bool.not_false, List.isEmpty_nil, List.nil_append, List.length_nil, List.length_cons, Nat.zero_add, us, ds, h0, true_or, Int.natCast_zero]
          · unfold gatepathlaw41_LeakShapes.b0_2
            cases f <;> cases s <;> simp (disch := omega) only [decide_true, decide_false, if_true, if_false, Bool.false_eq_true, Bool.true_eq_false, eq_self, Bool.true_or, Bool.false_or, Bool.true_and, Bool.false_and, Bool.or_true, Bool.or_false, Bool.and_true, Bool.and_false, List.getD_cons_zero, List.getD_cons_succ, cell_int, cell_bool, cell_str, cell_sl, cell_agg, i_int, b_bool, s_str, nb_sl, els_sl, nb_ov, els_ov, cs_pv, cs_agg, Int.toNat_natCast, toNat_sub1, toNat_add1, List.length_map, getD_map, ct, cf, beqd, bned, cp, cn, cnp, cnn, if_pos, if_neg, wrap64, Option.bind_some, Bool.not_true, Bool.not_false, List.isEmpty_nil, List.nil_append, List.length_nil, List.length_cons, Nat.zero_add, us, ds, h0, true_or, Int.natCast_zero]
          · unfold gatepathlaw41_LeakShapes.b0_3
            cases f <;> cases s <;> simp (disch := omega) only [decide_true, decide_false, if_true, if_false, Bool.false_eq_true, Bool.true_eq_false, eq_self, Bool.true_or, Bool.false_or, Bool.true_and, Bool.false_and, Bool.or_true, Bool.or_false, Bool.and_true, Bool.and_false, List.getD_cons_zero, List.getD_cons_succ, cell_int, cell_bool, cell_str, cell_sl, cell_agg, i_int, b_bool, s_str, nb_sl, els_sl, nb_ov, els_ov, cs_pv, cs_agg, Int.toNat_natCast, toNat_sub1, toNat_add1, List.length_map, getD_map, ct, cf, beqd, bned, cp, cn, cnp, cnn, if_pos, if_neg, wrap64, Option.bind_some, Bool.not_true, Bool.not_false, List.isEmpty_nil, List.nil_append, List.length_nil, List.length_cons, Nat.zero_add, us, ds, h0, true_or, Int.natCast_zero]
        · rcases hb with ⟨rfl, rfl⟩ | ⟨rfl, rfl⟩ | ⟨rfl, rfl⟩ | ⟨rfl, rfl⟩
          · unfold gatepathlaw41_LeakShapes.b0
            cases f <;> cases s <;> simp (disch := omega) only [decide_true, decide_false, if_true, if_false, Bool.false_eq_true, Bool.true_eq_false, eq_self, Bool.true_or, Bool.false_or, Bool.true_and, Bool.false_and, Bool.or_true, Bool.or_false, Bool.and_true, Bool.and_false, List.getD_cons_zero, List.getD_cons_succ, cell_int, cell_bool, cell_str, cell_sl, cell_agg, i_int, b_bool, s_str, nb_sl, els_sl, nb_ov, els_ov, cs_pv, cs_agg, Int.toNat_natCast, toNat_sub1, toNat_add1, List.length_map, getD_map, ct, cf, beqd, bned, cp, cn, cnp, cnn, if_pos, if_neg, wrap64, Option.bind_some, Bool.not_true, Bool.not_false, List.isEmpty_nil, List.nil_append, List.length_nil, List.length_cons, Nat.zero_add, us, ds, h0, false_or, or_true]
          · unfold gatepathlaw41_LeakShapes.b0_1
            cases f <;> cases s <;> simp (disch := omega) only [decide_true, decide_false, if_true, if_false, Bool.false_eq_true, Bool.true_eq_false, eq_self, Bool.true_or, Bool.false_or, Bool.true_and, Bool.false_and, Bool.or_true, Bool.or_false, Bool.and_true, Bool.and_false, List.getD_cons_zero, List.getD_cons_succ, cell_int, cell_bool, cell_str, cell_sl, cell_agg, i_int, b_bool, s_str, nb_sl, els_sl, nb_ov, els_ov, cs_pv, cs_agg, Int.toNat_natCast, toNat_sub1, toNat_add1, List.length_map, getD_map, ct, cf, beqd, bned, cp, cn, cnp, cnn, if_pos, if_neg, wrap64, Option.bind_some, Bool.not_true, Bool.not_false, List.isEmpty_nil, List.nil_append, List.length_nil, List.length_cons, Nat.zero_add, us, ds, h0, false_or, or_true]
          · unfold gatepathlaw41_LeakShapes.b0_2
            cases f <;> cases s <;> simp (disch := omega) only [decide_true, decide_false, if_true, if_false, Bool.false_eq_true, Bool.true_eq_false, eq_self, Bool.true_or, Bool.false_or, Bool.true_and, Bool.false_and, Bool.or_true, Bool.or_false, Bool.and_true, Bool.and_false, List.getD_cons_zero, List.getD_cons_succ, cell_int, cell_bool, cell_str, cell_sl, cell_agg, i_int, b_bool, s_str, nb_sl, els_sl, nb_ov, els_ov, cs_pv, cs_agg, Int.toNat_natCast, toNat_sub1, toNat_add1, List.length_map, getD_map, ct, cf, beqd, bned, cp, cn, cnp, cnn, if_pos, if_neg, wrap64, Option.bind_some, Bool.not_true, Bool.not_false, List.isEmpty_nil, List.nil_append, List.length_nil, List.length_cons, Nat.zero_add, us, ds, h0, false_or, or_true]
          · unfold gatepathlaw41_LeakShapes.b0_3
            cases f <;> cases s <;> simp (disch := omega) only [decide_true, decide_false, if_true, if_false, Bool.false_eq_true, Bool.true_eq_false, eq_self, Bool.true_or, Bool.false_or, Bool.true_and, Bool.false_and, Bool.or_true, Bool.or_false, Bool.and_true, Bool.and_false, List.getD_cons_zero, List.getD_cons_succ, cell_int, cell_bool, cell_str, cell_sl, cell_agg, i_int, b_bool, s_str, nb_sl, els_sl, nb_ov, els_ov, cs_pv, cs_agg, Int.toNat_natCast, toNat_sub1, toNat_add1, List.length_map, getD_map, ct, cf, beqd, bned, cp, cn, cnp, cnn, if_pos, if_neg, wrap64, Option.bind_some, Bool.not_true, Bool.not_false, List.isEmpty_nil, List.nil_append, List.length_nil, List.length_cons, Nat.zero_add, us, ds, h0, false_or, or_true]
  have dsh := down_shape l (sqF L)
  cases h1 : shapeF l true (sqF L).reverse <;> cases h2 : shapeF l false (sqF L).reverse <;> rw [h1, h2] at dsh <;> simp (disch := omega) only [decide_true, decide_false, if_true, if_false, Bool.false_eq_true, Bool.true_eq_false, eq_self, Bool.true_or, Bool.false_or, Bool.true_and, Bool.false_and, Bool.or_true, Bool.or_false, Bool.and_true, Bool.and_false, List.getD_cons_zero, List.getD_cons_succ, cell_int, cell_bool, cell_str, cell_sl, cell_agg, i_int, b_bool, s_str, nb_sl, els_sl, nb_ov, els_ov, cs_pv, cs_agg, Int.toNat_natCast, toNat_sub1, toNat_add1, List.length_map, getD_map, ct, cf, beqd, bned, cp, cn, cnp, cnn, if_pos, if_neg, wrap64, Option.bind_some, Bool.not_true, Bool.not_false, List.isEmpty_nil, List.nil_append, List.length_nil, List.length_cons, Nat.zero_add] at dsh ⊢
  · exact loop _ 2 dsh (.inr (.inr (.inl ⟨rfl, rfl⟩)))
  · exact loop _ 0 dsh (.inr (.inr (.inr ⟨rfl, rfl⟩)))
  · exact loop _ 2 dsh (.inl ⟨rfl, rfl⟩)
  · exact loop _ 1 dsh (.inr (.inl ⟨rfl, rfl⟩))

theorem leakShapes_law : LawTrue ty tab 8 [⟨false, [.sl 46]⟩, ⟨false, [.sl 23]⟩] := by
  refine lawTrue_of fun dd hf hw => ?_
  obtain ⟨d1, dd, rfl, h1, hf⟩ := fitsV_cons hf
  obtain ⟨d2, dd, rfl, h2, hf⟩ := fitsV_cons hf
  obtain rfl := fitsV_nil hf
  obtain ⟨n, els, rfl⟩ := fits_sl (fits_one h1)
  obtain ⟨m, els2, rfl⟩ := fits_sl (fits_one h2)
  obtain ⟨l, rfl, hl⟩ := ats_of (hw (.sl 46 n els) (by simp))
  obtain ⟨L, rfl, hL, hm, _⟩ := ints_of (hw (.sl 23 m els2) (by simp))
  exact leakShapes_cl _ _ _ _ hl hm

end Go.Proofs.Ytklbnnkdkkcgoaa.Own
