import Derived.Test.YtekkbhmlocageaaH
namespace Go.Proofs.Ytekkbhmlocageaa.Own
open Go Go.Proofs.Ytekkbhmlocageaa.GD
set_option linter.unusedVariables false
set_option linter.unusedSimpArgs false

/-! the best one -/
def samePf (d e : D) : Bool := decide ((d.cell 0).i = (e.cell 0).i) && (decide ((d.cell 1).i = (e.cell 1).i) && (decide ((d.cell 2).i = (e.cell 2).i) && decide ((d.cell 3).i = (e.cell 3).i)))
def diffs (l : List D) : Bool := l.any fun d => !samePf d (l.getD 0 .undef)

theorem best1_ok (n : Bool) (l : List D) (d : D) (hd : Jd d) (hl : 0 < l.length) : Cl ty tab 31 [d, .rp [.sl 39 n l] 0] = some [.bool (!samePf d (l.getD 0 .undef))] := by
  have := s_policy_Best_1 0 d n l (r := [.bool (!samePf d (l.getD 0 .undef))]) ?_
  · rwa [hd.eta] at this
  unfold policy_Best_1 samePf
  simp (disch := omega) only [decide_true, decide_false, if_true, if_false, Bool.false_eq_true, Bool.true_eq_false, eq_self, Bool.true_or, Bool.false_or, Bool.true_and, Bool.false_and, Bool.or_true, Bool.or_false, Bool.and_true, Bool.and_false, List.getD_cons_zero, List.getD_cons_succ, cell_int, cell_bool, cell_str, cell_sl, cell_agg, i_int, b_bool, s_str, nb_sl, els_sl, nb_ov, els_ov, cs_pv, cs_agg, Int.toNat_natCast, toNat_sub1, toNat_add1, List.length_map, getD_map, ct, cf, beqd, bned, cp, cn, cnp, cnn, if_pos, if_neg, wrap64, Option.bind_some, Bool.not_true, Bool.not_false, List.isEmpty_nil, List.nil_append, List.length_nil, List.length_cons, Nat.zero_add]

theorem ixDiff_ok (n : Bool) (l : List D) (hl : l.length ≤ 1000) (hj : AllJ l) : Cl ty tab 55 [.sl 39 n l, .fn 31 [.rp [.sl 39 n l] 0]] = some [.int .i64 (firstIx (fun d => !samePf d (l.getD 0 .undef)) l 0)] := by
  refine s_slices_IndexFunc 2000 n l n l ?_
  unfold slices_IndexFunc
  have := iter_ix (F := slices_IndexFunc.b0 (Cl ty tab) 2000 l n l) l.length (fun i => [.int .i64 i]) (fun i => some [.int .i64 (firstIx (fun d => !samePf d (l.getD 0 .undef)) (l.drop i) i)]) (fun i hi again ha => ?_) (fun again => ?_) 2000 (by omega) 0 (by omega)
  · simpa using this
  · unfold slices_IndexFunc.b0
    have hg : l.getD i .undef = l[i] := getD_get hi
    have hd := hj _ (List.getElem_mem hi)
    have b1 := best1_ok n l l[i] hd (by omega)
    rw [List.drop_eq_getElem_cons hi]
    unfold firstIx
    cases h : samePf l[i] (l.getD 0 .undef)
    · rw [h] at b1
      simp (disch := omega) only [decide_true, decide_false, if_true, if_false, Bool.false_eq_true, Bool.true_eq_false, eq_self, Bool.true_or, Bool.false_or, Bool.true_and, Bool.false_and, Bool.or_true, Bool.or_false, Bool.and_true, Bool.and_false, List.getD_cons_zero, List.getD_cons_succ, cell_int, cell_bool, cell_str, cell_sl, cell_agg, i_int, b_bool, s_str, nb_sl, els_sl, nb_ov, els_ov, cs_pv, cs_agg, Int.toNat_natCast, toNat_sub1, toNat_add1, List.length_map, getD_map, ct, cf, beqd, bned, cp, cn, cnp, cnn, if_pos, if_neg, wrap64, Option.bind_some, Bool.not_true, Bool.not_false, List.isEmpty_nil, List.nil_append, List.length_nil, List.length_cons, Nat.zero_add, hg, hd.eta, b1, h]
    · rw [h] at b1
      simp (disch := omega) only [decide_true, decide_false, if_true, if_false, Bool.false_eq_true, Bool.true_eq_false, eq_self, Bool.true_or, Bool.false_or, Bool.true_and, Bool.false_and, Bool.or_true, Bool.or_false, Bool.and_true, Bool.and_false, List.getD_cons_zero, List.getD_cons_succ, cell_int, cell_bool, cell_str, cell_sl, cell_agg, i_int, b_bool, s_str, nb_sl, els_sl, nb_ov, els_ov, cs_pv, cs_agg, Int.toNat_natCast, toNat_sub1, toNat_add1, List.length_map, getD_map, ct, cf, beqd, bned, cp, cn, cnp, cnn, if_pos, if_neg, wrap64, Option.bind_some, Bool.not_true, Bool.not_false, List.isEmpty_nil, List.nil_append, List.length_nil, List.length_cons, Nat.zero_add, hg, hd.eta, b1, h, Int.natCast_add, Int.natCast_one] at ha ⊢
      exact ha
  · unfold slices_IndexFunc.b0
    rw [List.drop_length]
    simp (disch := omega) only [decide_true, decide_false, if_true, if_false, Bool.false_eq_true, Bool.true_eq_false, eq_self, Bool.true_or, Bool.false_or, Bool.true_and, Bool.false_and, Bool.or_true, Bool.or_false, Bool.and_true, Bool.and_false, List.getD_cons_zero, List.getD_cons_succ, cell_int, cell_bool, cell_str, cell_sl, cell_agg, i_int, b_bool, s_str, nb_sl, els_sl, nb_ov, els_ov, cs_pv, cs_agg, Int.toNat_natCast, toNat_sub1, toNat_add1, List.length_map, getD_map, ct, cf, beqd, bned, cp, cn, cnp, cnn, if_pos, if_neg, wrap64, Option.bind_some, Bool.not_true, Bool.not_false, List.isEmpty_nil, List.nil_append, List.length_nil, List.length_cons, Nat.zero_add, firstIx]

theorem diffs_ok (n : Bool) (l : List D) (hl : l.length ≤ 1000) (hj : AllJ l) : Cl ty tab 30 [.sl 39 n l, .fn 31 [.rp [.sl 39 n l] 0]] = some [.bool (diffs l)] := by
  refine s_slices_ContainsFunc 0 n l n l ?_
  unfold slices_ContainsFunc diffs
  simp (disch := omega) only [decide_true, decide_false, if_true, if_false, Bool.false_eq_true, Bool.true_eq_false, eq_self, Bool.true_or, Bool.false_or, Bool.true_and, Bool.false_and, Bool.or_true, Bool.or_false, Bool.and_true, Bool.and_false, List.getD_cons_zero, List.getD_cons_succ, cell_int, cell_bool, cell_str, cell_sl, cell_agg, i_int, b_bool, s_str, nb_sl, els_sl, nb_ov, els_ov, cs_pv, cs_agg, Int.toNat_natCast, toNat_sub1, toNat_add1, List.length_map, getD_map, ct, cf, beqd, bned, cp, cn, cnp, cnn, if_pos, if_neg, wrap64, Option.bind_some, Bool.not_true, Bool.not_false, List.isEmpty_nil, List.nil_append, List.length_nil, List.length_cons, Nat.zero_add, ixDiff_ok n l hl hj, firstIx_any]

theorem best_no (x y : Int) (n : Bool) (l : List D) (hj : AllJ l) (h : checkF x y l ≠ 0) : Cl ty tab 15 [.agg [.int .u8 x, .int .u8 y], .sl 39 n l] = some [.int .i64 0, .int .i64 (checkF x y l)] := by
  refine s_policy_Best 0 x y n l ?_
  unfold policy_Best
  simp (disch := omega) only [decide_true, decide_false, if_true, if_false, Bool.false_eq_true, Bool.true_eq_false, eq_self, Bool.true_or, Bool.false_or, Bool.true_and, Bool.false_and, Bool.or_true, Bool.or_false, Bool.and_true, Bool.and_false, List.getD_cons_zero, List.getD_cons_succ, cell_int, cell_bool, cell_str, cell_sl, cell_agg, i_int, b_bool, s_str, nb_sl, els_sl, nb_ov, els_ov, cs_pv, cs_agg, Int.toNat_natCast, toNat_sub1, toNat_add1, List.length_map, getD_map, ct, cf, beqd, bned, cp, cn, cnp, cnn, if_pos, if_neg, wrap64, Option.bind_some, Bool.not_true, Bool.not_false, List.isEmpty_nil, List.nil_append, List.length_nil, List.length_cons, Nat.zero_add, order_no x y n l hj h, h, ne_eq, not_false_eq_true]

theorem best_diff (x y : Int) (n : Bool) (l : List D) (hj : AllJ l) (h : checkF x y l = 0) (hl : l.length ≤ 40) (hd : diffs l = true) : Cl ty tab 15 [.agg [.int .u8 x, .int .u8 y], .sl 39 n l] = some [.int .i64 0, .int .i64 2] := by
  obtain ⟨nb, o, e, _⟩ := order_ok x y n l hj h hl
  refine s_policy_Best 0 x y n l ?_
  unfold policy_Best
  simp (disch := omega) only [decide_true, decide_false, if_true, if_false, Bool.false_eq_true, Bool.true_eq_false, eq_self, Bool.true_or, Bool.false_or, Bool.true_and, Bool.false_and, Bool.or_true, Bool.or_false, Bool.and_true, Bool.and_false, List.getD_cons_zero, List.getD_cons_succ, cell_int, cell_bool, cell_str, cell_sl, cell_agg, i_int, b_bool, s_str, nb_sl, els_sl, nb_ov, els_ov, cs_pv, cs_agg, Int.toNat_natCast, toNat_sub1, toNat_add1, List.length_map, getD_map, ct, cf, beqd, bned, cp, cn, cnp, cnn, if_pos, if_neg, wrap64, Option.bind_some, Bool.not_true, Bool.not_false, List.isEmpty_nil, List.nil_append, List.length_nil, List.length_cons, Nat.zero_add, e, ne_eq, not_true_eq_false, diffs_ok n l (by omega) hj, hd]

theorem best_ok (x y : Int) (n : Bool) (l : List D) (hj : AllJ l) (h : checkF x y l = 0) (hl : l.length ≤ 40) (hd : diffs l = false) (o : List Int) (ho : IsOrder x y l o) :
    Cl ty tab 15 [.agg [.int .u8 x, .int .u8 y], .sl 39 n l] = some [.int .i64 (o.headD (-1)), .int .i64 0] := by
  obtain ⟨nb, o', e, ho'⟩ := order_ok x y n l hj h hl
  have : o' = o := sorted_unique (R := Bef (cL l)) (fun a b hab => Bef.not (cmp_cL l) hab) _ _ ho'.srt ho.srt fun z => by rw [ho'.mem, ho.mem]
  subst this
  refine s_policy_Best 0 x y n l ?_
  unfold policy_Best
  cases o' with
  | nil =>
    simp only [List.map_nil] at e
    simp (disch := omega) only [decide_true, decide_false, if_true, if_false, Bool.false_eq_true, Bool.true_eq_false, eq_self, Bool.true_or, Bool.false_or, Bool.true_and, Bool.false_and, Bool.or_true, Bool.or_false, Bool.and_true, Bool.and_false, List.getD_cons_zero, List.getD_cons_succ, cell_int, cell_bool, cell_str, cell_sl, cell_agg, i_int, b_bool, s_str, nb_sl, els_sl, nb_ov, els_ov, cs_pv, cs_agg, Int.toNat_natCast, toNat_sub1, toNat_add1, List.length_map, getD_map, ct, cf, beqd, bned, cp, cn, cnp, cnn, if_pos, if_neg, wrap64, Option.bind_some, Bool.not_true, Bool.not_false, List.isEmpty_nil, List.nil_append, List.length_nil, List.length_cons, Nat.zero_add, e, ne_eq, not_true_eq_false, diffs_ok n l (by omega) hj, hd, List.headD_nil]
  | cons a t =>
    simp only [List.map_cons] at e
    simp (disch := omega) only [decide_true, decide_false, if_true, if_false, Bool.false_eq_true, Bool.true_eq_false, eq_self, Bool.true_or, Bool.false_or, Bool.true_and, Bool.false_and, Bool.or_true, Bool.or_false, Bool.and_true, Bool.and_false, List.getD_cons_zero, List.getD_cons_succ, cell_int, cell_bool, cell_str, cell_sl, cell_agg, i_int, b_bool, s_str, nb_sl, els_sl, nb_ov, els_ov, cs_pv, cs_agg, Int.toNat_natCast, toNat_sub1, toNat_add1, List.length_map, getD_map, ct, cf, beqd, bned, cp, cn, cnp, cnn, if_pos, if_neg, wrap64, Option.bind_some, Bool.not_true, Bool.not_false, List.isEmpty_nil, List.nil_append, List.length_nil, List.length_cons, Nat.zero_add, e, ne_eq, not_true_eq_false, diffs_ok n l (by omega) hj, hd, List.headD_cons]

theorem order_ex (x y : Int) (l : List D) (hj : AllJ l) (h : checkF x y l = 0) (hl : l.length ≤ 40) : ∃ o, IsOrder x y l o := by
  obtain ⟨nb, o, _, ho⟩ := order_ok x y false l hj h hl
  exact ⟨o, ho⟩

/-- the first of the order is not after any other that is taken -/
theorem IsOrder.first {x y : Int} {l : List D} {a : Int} {t : List Int} (ho : IsOrder x y l (a :: t)) {i : Nat} (hi : i < l.length) (hk : tkJ x y (l.getD i .undef) = true) : a = i ∨ Bef (cL l) a i := by
  have hm := (ho.mem i).2 ⟨i, rfl, hi, hk⟩
  have hs := ho.srt
  rw [List.pairwise_cons] at hs
  rcases List.mem_cons.1 hm with e | e
  · exact .inl e.symm
  · exact .inr (hs.1 _ e)
theorem IsOrder.head {x y : Int} {l : List D} {a : Int} {t : List Int} (ho : IsOrder x y l (a :: t)) : ∃ i : Nat, a = i ∧ i < l.length ∧ tkJ x y (l.getD i .undef) = true := (ho.mem a).1 (List.mem_cons_self ..)

/-! great ones -/
def greatL (l : List D) : Bool := (decide (40 < l.length) && decide (l.length ≤ 500)) || (decide (510 < l.length) || l.any greatJ)
theorem greatLoop_ok (l : List D) (hl : l.length ≤ 1000) (hj : AllJ l) (hs : ∀ d, d ∈ l → (d.cell 13).els.length ≤ 9223372036854775807) :
    iter 2000 (gatepathref44_Great.b0 (Cl ty tab) 2000 l) [.int .i64 0] = some [.bool (l.any greatJ)] := by
  refine iter_list (F := gatepathref44_Great.b0 (Cl ty tab) 2000 l) l (fun i => [.int .i64 i]) (fun t => some [.bool (t.any greatJ)]) (fun i hi again ha => ?_) (fun again => ?_) 2000 (by omega)
  · unfold gatepathref44_Great.b0
    have hg : l.getD i .undef = l[i] := getD_get hi
    have gg := greatJ_ok l[i] (hs _ (List.getElem_mem hi))
    rw [List.any_cons]
    cases h : greatJ l[i]
    · simp (disch := omega) only [decide_true, decide_false, if_true, if_false, Bool.false_eq_true, Bool.true_eq_false, eq_self, Bool.true_or, Bool.false_or, Bool.true_and, Bool.false_and, Bool.or_true, Bool.or_false, Bool.and_true, Bool.and_false, List.getD_cons_zero, List.getD_cons_succ, cell_int, cell_bool, cell_str, cell_sl, cell_agg, i_int, b_bool, s_str, nb_sl, els_sl, nb_ov, els_ov, cs_pv, cs_agg, Int.toNat_natCast, toNat_sub1, toNat_add1, List.length_map, getD_map, ct, cf, beqd, bned, cp, cn, cnp, cnn, if_pos, if_neg, wrap64, Option.bind_some, Bool.not_true, Bool.not_false, List.isEmpty_nil, List.nil_append, List.length_nil, List.length_cons, Nat.zero_add, hg, gg, h, Int.natCast_add, Int.natCast_one] at ha ⊢
      exact ha
    · simp (disch := omega) only [decide_true, decide_false, if_true, if_false, Bool.false_eq_true, Bool.true_eq_false, eq_self, Bool.true_or, Bool.false_or, Bool.true_and, Bool.false_and, Bool.or_true, Bool.or_false, Bool.and_true, Bool.and_false, List.getD_cons_zero, List.getD_cons_succ, cell_int, cell_bool, cell_str, cell_sl, cell_agg, i_int, b_bool, s_str, nb_sl, els_sl, nb_ov, els_ov, cs_pv, cs_agg, Int.toNat_natCast, toNat_sub1, toNat_add1, List.length_map, getD_map, ct, cf, beqd, bned, cp, cn, cnp, cnn, if_pos, if_neg, wrap64, Option.bind_some, Bool.not_true, Bool.not_false, List.isEmpty_nil, List.nil_append, List.length_nil, List.length_cons, Nat.zero_add, hg, gg, h]
  · unfold gatepathref44_Great.b0
    simp (disch := omega) only [decide_true, decide_false, if_true, if_false, Bool.false_eq_true, Bool.true_eq_false, eq_self, Bool.true_or, Bool.false_or, Bool.true_and, Bool.false_and, Bool.or_true, Bool.or_false, Bool.and_true, Bool.and_false, List.getD_cons_zero, List.getD_cons_succ, cell_int, cell_bool, cell_str, cell_sl, cell_agg, i_int, b_bool, s_str, nb_sl, els_sl, nb_ov, els_ov, cs_pv, cs_agg, Int.toNat_natCast, toNat_sub1, toNat_add1, List.length_map, getD_map, ct, cf, beqd, bned, cp, cn, cnp, cnn, if_pos, if_neg, wrap64, Option.bind_some, Bool.not_true, Bool.not_false, List.isEmpty_nil, List.nil_append, List.length_nil, List.length_cons, Nat.zero_add, List.any_nil]
theorem great_ok (n : Bool) (l : List D) (hj : AllJ l) (hs : ∀ d, d ∈ l → (d.cell 13).els.length ≤ 9223372036854775807) : Cl ty tab 14 [.sl 39 n l] = some [.bool (greatL l)] := by
  refine s_gatepathref44_Great 2000 n l ?_
  unfold gatepathref44_Great greatL
  have same : @gatepathref44_Great.b0_1 = @gatepathref44_Great.b0 := rfl
  by_cases h1 : 40 < l.length
  · by_cases h2 : l.length ≤ 500
    · simp (disch := omega) only [decide_true, decide_false, if_true, if_false, Bool.false_eq_true, Bool.true_eq_false, eq_self, Bool.true_or, Bool.false_or, Bool.true_and, Bool.false_and, Bool.or_true, Bool.or_false, Bool.and_true, Bool.and_false, List.getD_cons_zero, List.getD_cons_succ, cell_int, cell_bool, cell_str, cell_sl, cell_agg, i_int, b_bool, s_str, nb_sl, els_sl, nb_ov, els_ov, cs_pv, cs_agg, Int.toNat_natCast, toNat_sub1, toNat_add1, List.length_map, getD_map, ct, cf, beqd, bned, cp, cn, cnp, cnn, if_pos, if_neg, wrap64, Option.bind_some, Bool.not_true, Bool.not_false, List.isEmpty_nil, List.nil_append, List.length_nil, List.length_cons, Nat.zero_add, h1, h2]
    · by_cases h3 : 510 < l.length
      · simp (disch := omega) only [decide_true, decide_false, if_true, if_false, Bool.false_eq_true, Bool.true_eq_false, eq_self, Bool.true_or, Bool.false_or, Bool.true_and, Bool.false_and, Bool.or_true, Bool.or_false, Bool.and_true, Bool.and_false, List.getD_cons_zero, List.getD_cons_succ, cell_int, cell_bool, cell_str, cell_sl, cell_agg, i_int, b_bool, s_str, nb_sl, els_sl, nb_ov, els_ov, cs_pv, cs_agg, Int.toNat_natCast, toNat_sub1, toNat_add1, List.length_map, getD_map, ct, cf, beqd, bned, cp, cn, cnp, cnn, if_pos, if_neg, wrap64, Option.bind_some, Bool.not_true, Bool.not_false, List.isEmpty_nil, List.nil_append, List.length_nil, List.length_cons, Nat.zero_add, h1, h2, h3]
      · simp (disch := omega) only [decide_true, decide_false, if_true, if_false, Bool.false_eq_true, Bool.true_eq_false, eq_self, Bool.true_or, Bool.false_or, Bool.true_and, Bool.false_and, Bool.or_true, Bool.or_false, Bool.and_true, Bool.and_false, List.getD_cons_zero, List.getD_cons_succ, cell_int, cell_bool, cell_str, cell_sl, cell_agg, i_int, b_bool, s_str, nb_sl, els_sl, nb_ov, els_ov, cs_pv, cs_agg, Int.toNat_natCast, toNat_sub1, toNat_add1, List.length_map, getD_map, ct, cf, beqd, bned, cp, cn, cnp, cnn, if_pos, if_neg, wrap64, Option.bind_some, Bool.not_true, Bool.not_false, List.isEmpty_nil, List.nil_append, List.length_nil, List.length_cons, Nat.zero_add, h1, h2, h3, greatLoop_ok l (by omega) hj hs]
  · by_cases h3 : 510 < l.length
    · omega
    · simp (disch := omega) only [decide_true, decide_false, if_true, if_false, Bool.false_eq_true, Bool.true_eq_false, eq_self, Bool.true_or, Bool.false_or, Bool.true_and, Bool.false_and, Bool.or_true, Bool.or_false, Bool.and_true, Bool.and_false, List.getD_cons_zero, List.getD_cons_succ, cell_int, cell_bool, cell_str, cell_sl, cell_agg, i_int, b_bool, s_str, nb_sl, els_sl, nb_ov, els_ov, cs_pv, cs_agg, Int.toNat_natCast, toNat_sub1, toNat_add1, List.length_map, getD_map, ct, cf, beqd, bned, cp, cn, cnp, cnn, if_pos, if_neg, wrap64, Option.bind_some, Bool.not_true, Bool.not_false, List.isEmpty_nil, List.nil_append, List.length_nil, List.length_cons, Nat.zero_add, h1, h3, same, greatLoop_ok l (by omega) hj hs]

theorem wrong_ok (a b c : Int) : Cl ty tab 16 [.agg [.int .u8 a, .int .u8 b, .int .u8 c]] = some [.int .i64 (cntF a b c 2)] := by
  refine s_gatepathlaw44_wrong 4 _ _ _ ?_
  unfold gatepathlaw44_wrong cntF one
  by_cases h1 : a = 2 <;> by_cases h2 : b = 2 <;> by_cases h3 : c = 2 <;> simp (disch := omega) only [decide_true, decide_false, if_true, if_false, Bool.false_eq_true, Bool.true_eq_false, eq_self, Bool.true_or, Bool.false_or, Bool.true_and, Bool.false_and, Bool.or_true, Bool.or_false, Bool.and_true, Bool.and_false, List.getD_cons_zero, List.getD_cons_succ, cell_int, cell_bool, cell_str, cell_sl, cell_agg, i_int, b_bool, s_str, nb_sl, els_sl, nb_ov, els_ov, cs_pv, cs_agg, Int.toNat_natCast, toNat_sub1, toNat_add1, List.length_map, getD_map, ct, cf, beqd, bned, cp, cn, cnp, cnn, if_pos, if_neg, wrap64, Option.bind_some, Bool.not_true, Bool.not_false, List.isEmpty_nil, List.nil_append, List.length_nil, List.length_cons, Nat.zero_add, iter_s, gatepathlaw44_wrong.b0, h1, h2, h3, Int.reduceAdd, Int.reduceToNat, Int.zero_add, Int.add_zero]

/-- the argument l, as a law is given it -/
theorem judged_of {d : D} (hf : Vk.fits ⟨false, [.sl 39]⟩ d = true) (hw : WT ty d) : ∃ n l, d = .sl 39 n l ∧ AllJ l ∧ ∀ e, e ∈ l → (e.cell 13).els.length ≤ 9223372036854775807 := by
  obtain ⟨n, l, rfl⟩ := fits_sl (fits_one hf)
  obtain ⟨_, _, h3, h4⟩ := hw.els
  have hty : ty 39 = some ⟨true, ks0⟩ := by kernel_rfl
  exact ⟨n, l, rfl, fun e he => jd_of (h3 _ hty e he) (h4 e he), fun e he => slen_of (h3 _ hty e he) (h4 e he)⟩

end Go.Proofs.Ytekkbhmlocageaa.Own
