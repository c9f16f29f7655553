import Derived.Test.YtmfhhbiaghejjaaB
import Derived.Test.YtmfhhbiaghejjaaAlive
import Derived.Test.YtmfhhbiaghejjaaRFreshLate
namespace Go.Proofs.Ytmfhhbiaghejjaa.Own
open Go Go.Proofs.Ytmfhhbiaghejjaa.GD
set_option linter.unusedVariables false
set_option linter.unusedSimpArgs false

theorem fine_el {els : List D} {nb : Bool} (h : WT ty (.sl 47 nb els)) : Fine els := by
  obtain ⟨hl, hn, hf, hw⟩ := h.els
  exact ⟨hl, fun d hd => hf ⟨true, ks0⟩ (by rfl) d hd⟩

theorem alive_ok : Cl ty tab 24 [] = some [.bool true] := Cl_eq.2 alive_ev

theorem lateL_append (now pat : Int) (l m : List D) : lateL now pat (l ++ m) = lateL now pat l ++ lateL now pat m := by
  unfold lateL
  rw [List.filter_append, List.map_append]

theorem late_at {now pat : Int} {l : List D} {i : Nat} (hi : i < l.length) (hf : lateF now pat l[i] = true) :
    (lateL now pat (l.take i)).length < (lateL now pat l).length ∧ (lateL now pat l).getD (lateL now pat (l.take i)).length .undef = D.str (l[i].cell 0).s := by
  have e : lateL now pat l = lateL now pat (l.take i) ++ D.str (l[i].cell 0).s :: lateL now pat (l.drop (i + 1)) := by
    conv => lhs; rw [← List.take_append_drop i l, lateL_append, List.drop_eq_getElem_cons hi]
    congr 1
    unfold lateL
    rw [List.filter_cons, if_pos hf]
    rfl
  rw [e]
  exact ⟨by simp, by simp [List.getD_eq_getElem?_getD]⟩

theorem lateL_take (now pat : Int) {l : List D} {i : Nat} (hi : i < l.length) : (lateL now pat (l.take (i + 1))).length = (lateL now pat (l.take i)).length + if lateF now pat l[i] = true then 1 else 0 := by
  rw [List.take_add_one, List.getElem?_eq_getElem hi, Option.toList_some, lateL_snoc]
  split <;> simp

theorem lateL_le {now pat more : Int} (h : ¬ more < pat) (l : List D) : (lateL now more l).length ≤ (lateL now pat l).length := by
  unfold lateL
  rw [List.length_map, List.length_map, ← List.countP_eq_length_filter, ← List.countP_eq_length_filter]
  apply List.countP_mono_left
  intro d hd
  unfold lateF
  simp only [Bool.or_eq_true, decide_eq_true_eq]
  omega

theorem freshLate_cl (n : Bool) (l : List D) (now pat more : Int) (hl : Fine l) : Cl ty tab 8 [.sl 47 n l, .int .i64 now, .int .i64 pat, .int .i64 more] = some [.bool true] := by
  obtain ⟨k, hk⟩ := rounds
  refine s_gatepathlaw29_FreshLate k _ _ _ _ _ ?_
  unfold gatepathlaw29_FreshLate
  simp (disch := omega) only [decide_true, decide_false, if_true, if_false, Bool.false_eq_true, Bool.true_eq_false, eq_self, Bool.true_or, Bool.false_or, Bool.true_and, Bool.false_and, Bool.or_true, Bool.or_false, Bool.and_true, Bool.and_false, List.getD_cons_zero, List.getD_cons_succ, cell_int, cell_bool, cell_str, cell_sl, cell_agg, i_int, b_bool, s_str, nb_sl, els_sl, nb_ov, els_ov, cs_pv, cs_agg, Int.toNat_natCast, toNat_sub1, toNat_add1, List.length_map, getD_map, ct, cf, beqd, bned, cp, cn, cnp, cnn, if_pos, if_neg, wrap64, Option.bind_some, Bool.not_true, Bool.not_false, List.isEmpty_nil, List.nil_append, List.length_nil, List.length_cons, Nat.zero_add, alive_ok, great_ok n l hl]
  cases hg : greatF l
  case true => simp (disch := omega) only [decide_true, decide_false, if_true, if_false, Bool.false_eq_true, Bool.true_eq_false, eq_self, Bool.true_or, Bool.false_or, Bool.true_and, Bool.false_and, Bool.or_true, Bool.or_false, Bool.and_true, Bool.and_false, List.getD_cons_zero, List.getD_cons_succ, cell_int, cell_bool, cell_str, cell_sl, cell_agg, i_int, b_bool, s_str, nb_sl, els_sl, nb_ov, els_ov, cs_pv, cs_agg, Int.toNat_natCast, toNat_sub1, toNat_add1, List.length_map, getD_map, ct, cf, beqd, bned, cp, cn, cnp, cnn, if_pos, if_neg, wrap64, Option.bind_some, Bool.not_true, Bool.not_false, List.isEmpty_nil, List.nil_append, List.length_nil, List.length_cons, Nat.zero_add]
  have hg2 := (greatF_small hg).1
  by_cases hc : checkF l = 0
  case neg => simp (disch := omega) only [decide_true, decide_false, if_true, if_false, Bool.false_eq_true, Bool.true_eq_false, eq_self, Bool.true_or, Bool.false_or, Bool.true_and, Bool.false_and, Bool.or_true, Bool.or_false, Bool.and_true, Bool.and_false, List.getD_cons_zero, List.getD_cons_succ, cell_int, cell_bool, cell_str, cell_sl, cell_agg, i_int, b_bool, s_str, nb_sl, els_sl, nb_ov, els_ov, cs_pv, cs_agg, Int.toNat_natCast, toNat_sub1, toNat_add1, List.length_map, getD_map, ct, cf, beqd, bned, cp, cn, cnp, cnn, if_pos, if_neg, wrap64, Option.bind_some, Bool.not_true, Bool.not_false, List.isEmpty_nil, List.nil_append, List.length_nil, List.length_cons, Nat.zero_add, rcheck_ok n l hl, hc, ne_eq, not_false_eq_true]
  obtain ⟨c1, c2, c3⟩ := check_zero hc
  simp (disch := omega) only [decide_true, decide_false, if_true, if_false, Bool.false_eq_true, Bool.true_eq_false, eq_self, Bool.true_or, Bool.false_or, Bool.true_and, Bool.false_and, Bool.or_true, Bool.or_false, Bool.and_true, Bool.and_false, List.getD_cons_zero, List.getD_cons_succ, cell_int, cell_bool, cell_str, cell_sl, cell_agg, i_int, b_bool, s_str, nb_sl, els_sl, nb_ov, els_ov, cs_pv, cs_agg, Int.toNat_natCast, toNat_sub1, toNat_add1, List.length_map, getD_map, ct, cf, beqd, bned, cp, cn, cnp, cnn, if_pos, if_neg, wrap64, Option.bind_some, Bool.not_true, Bool.not_false, List.isEmpty_nil, List.nil_append, List.length_nil, List.length_cons, Nat.zero_add, rcheck_ok n l hl, hc, ne_eq, not_true_eq_false, rmoment_ok]
  cases h1 : mom now
  · simp (disch := omega) only [decide_true, decide_false, if_true, if_false, Bool.false_eq_true, Bool.true_eq_false, eq_self, Bool.true_or, Bool.false_or, Bool.true_and, Bool.false_and, Bool.or_true, Bool.or_false, Bool.and_true, Bool.and_false, List.getD_cons_zero, List.getD_cons_succ, cell_int, cell_bool, cell_str, cell_sl, cell_agg, i_int, b_bool, s_str, nb_sl, els_sl, nb_ov, els_ov, cs_pv, cs_agg, Int.toNat_natCast, toNat_sub1, toNat_add1, List.length_map, getD_map, ct, cf, beqd, bned, cp, cn, cnp, cnn, if_pos, if_neg, wrap64, Option.bind_some, Bool.not_true, Bool.not_false, List.isEmpty_nil, List.nil_append, List.length_nil, List.length_cons, Nat.zero_add]
  cases h2 : mom pat
  · simp (disch := omega) only [decide_true, decide_false, if_true, if_false, Bool.false_eq_true, Bool.true_eq_false, eq_self, Bool.true_or, Bool.false_or, Bool.true_and, Bool.false_and, Bool.or_true, Bool.or_false, Bool.and_true, Bool.and_false, List.getD_cons_zero, List.getD_cons_succ, cell_int, cell_bool, cell_str, cell_sl, cell_agg, i_int, b_bool, s_str, nb_sl, els_sl, nb_ov, els_ov, cs_pv, cs_agg, Int.toNat_natCast, toNat_sub1, toNat_add1, List.length_map, getD_map, ct, cf, beqd, bned, cp, cn, cnp, cnn, if_pos, if_neg, wrap64, Option.bind_some, Bool.not_true, Bool.not_false, List.isEmpty_nil, List.nil_append, List.length_nil, List.length_cons, Nat.zero_add]
  cases h3 : mom more
  · simp (disch := omega) only [decide_true, decide_false, if_true, if_false, Bool.false_eq_true, Bool.true_eq_false, eq_self, Bool.true_or, Bool.false_or, Bool.true_and, Bool.false_and, Bool.or_true, Bool.or_false, Bool.and_true, Bool.and_false, List.getD_cons_zero, List.getD_cons_succ, cell_int, cell_bool, cell_str, cell_sl, cell_agg, i_int, b_bool, s_str, nb_sl, els_sl, nb_ov, els_ov, cs_pv, cs_agg, Int.toNat_natCast, toNat_sub1, toNat_add1, List.length_map, getD_map, ct, cf, beqd, bned, cp, cn, cnp, cnn, if_pos, if_neg, wrap64, Option.bind_some, Bool.not_true, Bool.not_false, List.isEmpty_nil, List.nil_append, List.length_nil, List.length_cons, Nat.zero_add]
  simp (disch := omega) only [decide_true, decide_false, if_true, if_false, Bool.false_eq_true, Bool.true_eq_false, eq_self, Bool.true_or, Bool.false_or, Bool.true_and, Bool.false_and, Bool.or_true, Bool.or_false, Bool.and_true, Bool.and_false, List.getD_cons_zero, List.getD_cons_succ, cell_int, cell_bool, cell_str, cell_sl, cell_agg, i_int, b_bool, s_str, nb_sl, els_sl, nb_ov, els_ov, cs_pv, cs_agg, Int.toNat_natCast, toNat_sub1, toNat_add1, List.length_map, getD_map, ct, cf, beqd, bned, cp, cn, cnp, cnn, if_pos, if_neg, wrap64, Option.bind_some, Bool.not_true, Bool.not_false, List.isEmpty_nil, List.nil_append, List.length_nil, List.length_cons, Nat.zero_add]
  by_cases h4 : more < pat
  · simp (disch := omega) only [decide_true, decide_false, if_true, if_false, Bool.false_eq_true, Bool.true_eq_false, eq_self, Bool.true_or, Bool.false_or, Bool.true_and, Bool.false_and, Bool.or_true, Bool.or_false, Bool.and_true, Bool.and_false, List.getD_cons_zero, List.getD_cons_succ, cell_int, cell_bool, cell_str, cell_sl, cell_agg, i_int, b_bool, s_str, nb_sl, els_sl, nb_ov, els_ov, cs_pv, cs_agg, Int.toNat_natCast, toNat_sub1, toNat_add1, List.length_map, getD_map, ct, cf, beqd, bned, cp, cn, cnp, cnn, if_pos, if_neg, wrap64, Option.bind_some, Bool.not_true, Bool.not_false, List.isEmpty_nil, List.nil_append, List.length_nil, List.length_cons, Nat.zero_add]
  have e1 : Cl ty tab 15 [.sl 47 n l, .int .i64 now, .int .i64 pat] = some [.ov 9 (lateL now pat l).isEmpty (lateL now pat l), .int .i64 0] := by
    rw [late_ok n l now pat hl]; simp [lateR, hc, h1, h2]
  have e2 : Cl ty tab 15 [.sl 47 n l, .int .i64 now, .int .i64 more] = some [.ov 9 (lateL now more l).isEmpty (lateL now more l), .int .i64 0] := by
    rw [late_ok n l now more hl]; simp [lateR, hc, h1, h3]
  have q1 := lateL_len now pat l
  have q2 := lateL_le (now := now) h4 l
  simp (disch := omega) only [decide_true, decide_false, if_true, if_false, Bool.false_eq_true, Bool.true_eq_false, eq_self, Bool.true_or, Bool.false_or, Bool.true_and, Bool.false_and, Bool.or_true, Bool.or_false, Bool.and_true, Bool.and_false, List.getD_cons_zero, List.getD_cons_succ, cell_int, cell_bool, cell_str, cell_sl, cell_agg, i_int, b_bool, s_str, nb_sl, els_sl, nb_ov, els_ov, cs_pv, cs_agg, Int.toNat_natCast, toNat_sub1, toNat_add1, List.length_map, getD_map, ct, cf, beqd, bned, cp, cn, cnp, cnn, if_pos, if_neg, wrap64, Option.bind_some, Bool.not_true, Bool.not_false, List.isEmpty_nil, List.nil_append, List.length_nil, List.length_cons, Nat.zero_add, e1, e2, ne_eq, not_true_eq_false]
  have hn := h1
  unfold mom at hn
  rw [decide_eq_true_eq] at hn
  have := iter_ix (F := gatepathlaw29_FreshLate.b0 (Cl ty tab) k l now pat more [.bool true] [.ov 9 (lateL now pat l).isEmpty (lateL now pat l), .int .i64 0] [.ov 9 (lateL now more l).isEmpty (lateL now more l), .int .i64 0]) l.length
    (fun i => [.int .i64 (lateL now pat (l.take i)).length, .int .i64 (lateL now more (l.take i)).length, .int .i64 i, .ov 9 (lateL now pat l).isEmpty (lateL now pat l), .ov 9 (lateL now more l).isEmpty (lateL now more l)]) (fun _ => some [.bool true]) (fun i hi again ha => ?_) (fun again => ?_) k (by omega) 0 (by omega)
  · exact this
  · have hm := List.getElem_mem hi
    have m1 := right_moms (c3 _ hm)
    have a1 := lateL_take now pat hi
    have a2 := lateL_take now more hi
    rw [a1, a2] at ha
    have t1 : (lateL now pat (l.take i)).length ≤ 210 := by have := lateL_len now pat (l.take i); rw [List.length_take] at this; omega
    have t2 : (lateL now more (l.take i)).length ≤ 210 := by have := lateL_len now more (l.take i); rw [List.length_take] at this; omega
    have e1 : (l[i].cell 35).i = til l[i] := rfl
    have e2 : (l[i].cell 36).i = seen l[i] := rfl
    unfold gatepathlaw29_FreshLate.b0
    by_cases b1 : til l[i] < now
    · have f1 : lateF now pat l[i] = true := by simp [lateF, b1]
      have f2 : lateF now more l[i] = true := by simp [lateF, b1]
      obtain ⟨g1, g2⟩ := late_at hi f1
      obtain ⟨g3, g4⟩ := late_at hi f2
      rw [f1, f2] at ha
      simp (disch := omega) only [decide_true, decide_false, if_true, if_false, Bool.false_eq_true, Bool.true_eq_false, eq_self, Bool.true_or, Bool.false_or, Bool.true_and, Bool.false_and, Bool.or_true, Bool.or_false, Bool.and_true, Bool.and_false, List.getD_cons_zero, List.getD_cons_succ, cell_int, cell_bool, cell_str, cell_sl, cell_agg, i_int, b_bool, s_str, nb_sl, els_sl, nb_ov, els_ov, cs_pv, cs_agg, Int.toNat_natCast, toNat_sub1, toNat_add1, List.length_map, getD_map, ct, cf, beqd, bned, cp, cn, cnp, cnn, if_pos, if_neg, wrap64, Option.bind_some, Bool.not_true, Bool.not_false, List.isEmpty_nil, List.nil_append, List.length_nil, List.length_cons, Nat.zero_add, getD_get, e1, e2, g2, g4, beq_self_eq_true, Int.natCast_add, Int.natCast_one] at ha ⊢
      exact ha
    · by_cases b2 : pat < now - seen l[i]
      · have f1 : lateF now pat l[i] = true := by simp [lateF, b2]
        obtain ⟨g1, g2⟩ := late_at hi f1
        by_cases b3 : more < now - seen l[i]
        · have f2 : lateF now more l[i] = true := by simp [lateF, b3]
          obtain ⟨g3, g4⟩ := late_at hi f2
          rw [f1, f2] at ha
          simp (disch := omega) only [decide_true, decide_false, if_true, if_false, Bool.false_eq_true, Bool.true_eq_false, eq_self, Bool.true_or, Bool.false_or, Bool.true_and, Bool.false_and, Bool.or_true, Bool.or_false, Bool.and_true, Bool.and_false, List.getD_cons_zero, List.getD_cons_succ, cell_int, cell_bool, cell_str, cell_sl, cell_agg, i_int, b_bool, s_str, nb_sl, els_sl, nb_ov, els_ov, cs_pv, cs_agg, Int.toNat_natCast, toNat_sub1, toNat_add1, List.length_map, getD_map, ct, cf, beqd, bned, cp, cn, cnp, cnn, if_pos, if_neg, wrap64, Option.bind_some, Bool.not_true, Bool.not_false, List.isEmpty_nil, List.nil_append, List.length_nil, List.length_cons, Nat.zero_add, getD_get, e1, e2, g2, g4, beq_self_eq_true, Int.natCast_add, Int.natCast_one] at ha ⊢
          exact ha
        · have f2 : lateF now more l[i] = false := by simp [lateF, b3, b1]
          rw [f1, f2] at ha
          simp (disch := omega) only [decide_true, decide_false, if_true, if_false, Bool.false_eq_true, Bool.true_eq_false, eq_self, Bool.true_or, Bool.false_or, Bool.true_and, Bool.false_and, Bool.or_true, Bool.or_false, Bool.and_true, Bool.and_false, List.getD_cons_zero, List.getD_cons_succ, cell_int, cell_bool, cell_str, cell_sl, cell_agg, i_int, b_bool, s_str, nb_sl, els_sl, nb_ov, els_ov, cs_pv, cs_agg, Int.toNat_natCast, toNat_sub1, toNat_add1, List.length_map, getD_map, ct, cf, beqd, bned, cp, cn, cnp, cnn, if_pos, if_neg, wrap64, Option.bind_some, Bool.not_true, Bool.not_false, List.isEmpty_nil, List.nil_append, List.length_nil, List.length_cons, Nat.zero_add, getD_get, e1, e2, g2, beq_self_eq_true, Int.natCast_add, Int.natCast_one, Nat.add_zero] at ha ⊢
          exact ha
      · have f1 : lateF now pat l[i] = false := by simp [lateF, b1, b2]
        have b3 : ¬ more < now - seen l[i] := by omega
        have f2 : lateF now more l[i] = false := by simp [lateF, b3, b1]
        rw [f1, f2] at ha
        simp (disch := omega) only [decide_true, decide_false, if_true, if_false, Bool.false_eq_true, Bool.true_eq_false, eq_self, Bool.true_or, Bool.false_or, Bool.true_and, Bool.false_and, Bool.or_true, Bool.or_false, Bool.and_true, Bool.and_false, List.getD_cons_zero, List.getD_cons_succ, cell_int, cell_bool, cell_str, cell_sl, cell_agg, i_int, b_bool, s_str, nb_sl, els_sl, nb_ov, els_ov, cs_pv, cs_agg, Int.toNat_natCast, toNat_sub1, toNat_add1, List.length_map, getD_map, ct, cf, beqd, bned, cp, cn, cnp, cnn, if_pos, if_neg, wrap64, Option.bind_some, Bool.not_true, Bool.not_false, List.isEmpty_nil, List.nil_append, List.length_nil, List.length_cons, Nat.zero_add, getD_get, e1, e2, beq_self_eq_true, Int.natCast_add, Int.natCast_one, Nat.add_zero] at ha ⊢
        exact ha
  · unfold gatepathlaw29_FreshLate.b0
    simp (disch := omega) only [decide_true, decide_false, if_true, if_false, Bool.false_eq_true, Bool.true_eq_false, eq_self, Bool.true_or, Bool.false_or, Bool.true_and, Bool.false_and, Bool.or_true, Bool.or_false, Bool.and_true, Bool.and_false, List.getD_cons_zero, List.getD_cons_succ, cell_int, cell_bool, cell_str, cell_sl, cell_agg, i_int, b_bool, s_str, nb_sl, els_sl, nb_ov, els_ov, cs_pv, cs_agg, Int.toNat_natCast, toNat_sub1, toNat_add1, List.length_map, getD_map, ct, cf, beqd, bned, cp, cn, cnp, cnn, if_pos, if_neg, wrap64, Option.bind_some, Bool.not_true, Bool.not_false, List.isEmpty_nil, List.nil_append, List.length_nil, List.length_cons, Nat.zero_add, List.take_length, beq_self_eq_true]

theorem freshLate_law : LawTrue ty tab 8 [⟨false, [.sl 47]⟩, ⟨false, [.int .i64]⟩, ⟨false, [.int .i64]⟩, ⟨false, [.int .i64]⟩] := by
  refine lawTrue_of fun dd hf hw => ?_
  obtain ⟨d1, dd, rfl, h1, hf⟩ := fitsV_cons hf
  obtain ⟨d2, dd, rfl, h2, hf⟩ := fitsV_cons hf
  obtain ⟨d3, dd, rfl, h3, hf⟩ := fitsV_cons hf
  obtain ⟨d4, dd, rfl, h4, hf⟩ := fitsV_cons hf
  obtain rfl := fitsV_nil hf
  obtain ⟨n, els, rfl⟩ := fits_sl (fits_one h1)
  obtain ⟨x, rfl⟩ := fits_int (fits_one h2)
  obtain ⟨y, rfl⟩ := fits_int (fits_one h3)
  obtain ⟨z, rfl⟩ := fits_int (fits_one h4)
  exact freshLate_cl n els x y z (fine_el (hw (.sl 47 n els) (by simp)))

end Go.Proofs.Ytmfhhbiaghejjaa.Own
