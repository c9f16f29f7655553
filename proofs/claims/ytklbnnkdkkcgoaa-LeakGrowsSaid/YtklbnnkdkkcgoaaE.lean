import Derived.Test.YtklbnnkdkkcgoaaD
namespace Go.Proofs.Ytklbnnkdkkcgoaa.Own
open Go Go.Proofs.Ytklbnnkdkkcgoaa.GD
set_option linter.unusedVariables false
set_option linter.unusedSimpArgs false

/-- how far one goes up, until a hop is as it must not be -/
def cF (l : List At) (bad : Int → Bool) : List Int → Nat
  | [] => 0
  | [_] => 1
  | x :: y :: t => if bad (hopF l x y) = true then 1 else cF l bad (y :: t) + 1

def notH (h : Int) : Bool := decide (h = 2)
def doubtH (h : Int) : Bool := decide (h ≠ 1)

theorem not_ok (h : Int) : Cl ty tab 47 [.int .u8 h] = some [.bool (notH h)] := by
  refine s_leak_Ramps_2 0 _ ?_
  unfold leak_Ramps_2
  simp (disch := omega) only [decide_true, decide_false, if_true, if_false, Bool.false_eq_true, Bool.true_eq_false, eq_self, Bool.true_or, Bool.false_or, Bool.true_and, Bool.false_and, Bool.or_true, Bool.or_false, Bool.and_true, Bool.and_false, List.getD_cons_zero, List.getD_cons_succ, cell_int, cell_bool, cell_str, cell_sl, cell_agg, i_int, b_bool, s_str, nb_sl, els_sl, nb_ov, els_ov, cs_pv, cs_agg, Int.toNat_natCast, toNat_sub1, toNat_add1, List.length_map, getD_map, ct, cf, beqd, bned, cp, cn, cnp, cnn, if_pos, if_neg, wrap64, Option.bind_some, Bool.not_true, Bool.not_false, List.isEmpty_nil, List.nil_append, List.length_nil, List.length_cons, Nat.zero_add, notH]
theorem doubt_ok (h : Int) : Cl ty tab 48 [.int .u8 h] = some [.bool (doubtH h)] := by
  refine s_leak_Ramps_3 0 _ ?_
  unfold leak_Ramps_3
  simp (disch := omega) only [decide_true, decide_false, if_true, if_false, Bool.false_eq_true, Bool.true_eq_false, eq_self, Bool.true_or, Bool.false_or, Bool.true_and, Bool.false_and, Bool.or_true, Bool.or_false, Bool.and_true, Bool.and_false, List.getD_cons_zero, List.getD_cons_succ, cell_int, cell_bool, cell_str, cell_sl, cell_agg, i_int, b_bool, s_str, nb_sl, els_sl, nb_ov, els_ov, cs_pv, cs_agg, Int.toNat_natCast, toNat_sub1, toNat_add1, List.length_map, getD_map, ct, cf, beqd, bned, cp, cn, cnp, cnn, if_pos, if_neg, wrap64, Option.bind_some, Bool.not_true, Bool.not_false, List.isEmpty_nil, List.nil_append, List.length_nil, List.length_cons, Nat.zero_add, doubtH]

theorem cF_le (l : List At) (bad : Int → Bool) : ∀ a, cF l bad a ≤ a.length
  | [] => Nat.le_refl _
  | [_] => Nat.le_refl _
  | x :: y :: t => by
    unfold cF
    split
    · simp
    · have := cF_le l bad (y :: t); simp at this ⊢; omega

theorem climb_ok (f : Nat) (bad : Int → Bool) (hf : (f = 48 ∧ bad = doubtH) ∨ (f = 47 ∧ bad = notH)) (n m : Bool) (l : List At) (a : List Int) (hl : Fine l) (hc : checkF l = 0) (ha : a.length ≤ 100) :
    Cl ty tab 46 [.sl 23 n (U a), .fn f [], .rp [.sl 46 m (l.map At.d)] 0] = some [.int .i64 (cF l bad a)] := by
  obtain ⟨k, hk⟩ := rounds
  have hop := fun x y => hop_ok m l x y hl hc
  have hval : ∀ (b : List D → (List D → Option (List D)) → Option (List D)), (∀ again, b [.int .i64 (a.length : Nat)] again = some [.int .i64 (a.length : Nat)]) →
      (∀ i (hi : i + 1 = a.length) again, again [.int .i64 (i + 1 : Nat)] = some [.int .i64 (i + 1 : Nat)] → b [.int .i64 i] again = some [.int .i64 (i + 1 : Nat)]) →
      (∀ i (hi : i + 1 < a.length) again r, again [.int .i64 (i + 1 : Nat)] = r → b [.int .i64 i] again = if bad (hopF l a[i] a[i + 1]) = true then some [.int .i64 (i + 1 : Nat)] else r) → iter k b [.int .i64 0] = some [.int .i64 (cF l bad a)] := by
    intro b h1 h2 h3
    have := iter_ix (F := b) a.length (fun i => [.int .i64 i]) (fun i => some [.int .i64 (i + cF l bad (a.drop i) : Nat)]) (fun i hi again hag => ?_) (fun again => by simpa [cF] using h1 again) k (by omega) 0 (by omega)
    · simpa using this
    · rcases Nat.lt_or_ge (i + 1) a.length with hlt | hge
      · rw [h3 i hlt again _ hag, drop2 hlt, cF]
        split
        · rfl
        · rw [← List.drop_eq_getElem_cons hlt, Nat.add_assoc, Nat.add_comm 1]
      · have e1 : a.drop (i + 1) = [] := List.drop_eq_nil_of_le hge
        rw [e1] at hag
        rw [h2 i (by omega) again (by simpa [cF] using hag), List.drop_eq_getElem_cons hi, e1]
        rfl
  rcases hf with ⟨rfl, rfl⟩ | ⟨rfl, rfl⟩
  · refine s_leak_Ramps_1 k _ _ _ _ ?_
    unfold leak_Ramps_1
    refine hval _ (fun again => ?_) (fun i hi again hag => ?_) (fun i hi again r hag => ?_)
    · unfold leak_Ramps_1.b0
      simp (disch := omega) only [decide_true, decide_false, if_true, if_false, Bool.false_eq_true, Bool.true_eq_false, eq_self, Bool.true_or, Bool.false_or, Bool.true_and, Bool.false_and, Bool.or_true, Bool.or_false, Bool.and_true, Bool.and_false, List.getD_cons_zero, List.getD_cons_succ, cell_int, cell_bool, cell_str, cell_sl, cell_agg, i_int, b_bool, s_str, nb_sl, els_sl, nb_ov, els_ov, cs_pv, cs_agg, Int.toNat_natCast, toNat_sub1, toNat_add1, List.length_map, getD_map, ct, cf, beqd, bned, cp, cn, cnp, cnn, if_pos, if_neg, wrap64, Option.bind_some, Bool.not_true, Bool.not_false, List.isEmpty_nil, List.nil_append, List.length_nil, List.length_cons, Nat.zero_add]
    · unfold leak_Ramps_1.b0
      simp (disch := omega) only [decide_true, decide_false, if_true, if_false, Bool.false_eq_true, Bool.true_eq_false, eq_self, Bool.true_or, Bool.false_or, Bool.true_and, Bool.false_and, Bool.or_true, Bool.or_false, Bool.and_true, Bool.and_false, List.getD_cons_zero, List.getD_cons_succ, cell_int, cell_bool, cell_str, cell_sl, cell_agg, i_int, b_bool, s_str, nb_sl, els_sl, nb_ov, els_ov, cs_pv, cs_agg, Int.toNat_natCast, toNat_sub1, toNat_add1, List.length_map, getD_map, ct, cf, beqd, bned, cp, cn, cnp, cnn, if_pos, if_neg, wrap64, Option.bind_some, Bool.not_true, Bool.not_false, List.isEmpty_nil, List.nil_append, List.length_nil, List.length_cons, Nat.zero_add]
      exact hag
    · unfold leak_Ramps_1.b0
      simp (disch := omega) only [decide_true, decide_false, if_true, if_false, Bool.false_eq_true, Bool.true_eq_false, eq_self, Bool.true_or, Bool.false_or, Bool.true_and, Bool.false_and, Bool.or_true, Bool.or_false, Bool.and_true, Bool.and_false, List.getD_cons_zero, List.getD_cons_succ, cell_int, cell_bool, cell_str, cell_sl, cell_agg, i_int, b_bool, s_str, nb_sl, els_sl, nb_ov, els_ov, cs_pv, cs_agg, Int.toNat_natCast, toNat_sub1, toNat_add1, List.length_map, getD_map, ct, cf, beqd, bned, cp, cn, cnp, cnn, if_pos, if_neg, wrap64, Option.bind_some, Bool.not_true, Bool.not_false, List.isEmpty_nil, List.nil_append, List.length_nil, List.length_cons, Nat.zero_add, Int.add_sub_cancel, hop, doubt_ok]
      cases doubtH (hopF l a[i] a[i + 1])
      · simp (disch := omega) only [decide_true, decide_false, if_true, if_false, Bool.false_eq_true, Bool.true_eq_false, eq_self, Bool.true_or, Bool.false_or, Bool.true_and, Bool.false_and, Bool.or_true, Bool.or_false, Bool.and_true, Bool.and_false, List.getD_cons_zero, List.getD_cons_succ, cell_int, cell_bool, cell_str, cell_sl, cell_agg, i_int, b_bool, s_str, nb_sl, els_sl, nb_ov, els_ov, cs_pv, cs_agg, Int.toNat_natCast, toNat_sub1, toNat_add1, List.length_map, getD_map, ct, cf, beqd, bned, cp, cn, cnp, cnn, if_pos, if_neg, wrap64, Option.bind_some, Bool.not_true, Bool.not_false, List.isEmpty_nil, List.nil_append, List.length_nil, List.length_cons, Nat.zero_add]
        exact hag
      · simp (disch := omega) only [decide_true, decide_false, if_true, if_false, Bool.false_eq_true, Bool.true_eq_false, eq_self, Bool.true_or, Bool.false_or, Bool.true_and, Bool.false_and, Bool.or_true, Bool.or_false, Bool.and_true, Bool.and_false, List.getD_cons_zero, List.getD_cons_succ, cell_int, cell_bool, cell_str, cell_sl, cell_agg, i_int, b_bool, s_str, nb_sl, els_sl, nb_ov, els_ov, cs_pv, cs_agg, Int.toNat_natCast, toNat_sub1, toNat_add1, List.length_map, getD_map, ct, cf, beqd, bned, cp, cn, cnp, cnn, if_pos, if_neg, wrap64, Option.bind_some, Bool.not_true, Bool.not_false, List.isEmpty_nil, List.nil_append, List.length_nil, List.length_cons, Nat.zero_add]
        rfl
  · refine s_leak_Ramps_1_v2 k _ _ _ _ ?_
    unfold leak_Ramps_1_v2
    refine hval _ (fun again => ?_) (fun i hi again hag => ?_) (fun i hi again r hag => ?_)
    · unfold leak_Ramps_1_v2.b0_1
      simp (disch := omega) only [decide_true, decide_false, if_true, if_false, Bool.false_eq_true, Bool.true_eq_false, eq_self, Bool.true_or, Bool.false_or, Bool.true_and, Bool.false_and, Bool.or_true, Bool.or_false, Bool.and_true, Bool.and_false, List.getD_cons_zero, List.getD_cons_succ, cell_int, cell_bool, cell_str, cell_sl, cell_agg, i_int, b_bool, s_str, nb_sl, els_sl, nb_ov, els_ov, cs_pv, cs_agg, Int.toNat_natCast, toNat_sub1, toNat_add1, List.length_map, getD_map, ct, cf, beqd, bned, cp, cn, cnp, cnn, if_pos, if_neg, wrap64, Option.bind_some, Bool.not_true, Bool.not_false, List.isEmpty_nil, List.nil_append, List.length_nil, List.length_cons, Nat.zero_add]
    · unfold leak_Ramps_1_v2.b0_1
      simp (disch := omega) only [decide_true, decide_false, if_true, if_false, Bool.false_eq_true, Bool.true_eq_false, eq_self, Bool.true_or, Bool.false_or, Bool.true_and, Bool.false_and, Bool.or_true, Bool.or_false, Bool.and_true, Bool.and_false, List.getD_cons_zero, List.getD_cons_succ, cell_int, cell_bool, cell_str, cell_sl, cell_agg, i_int, b_bool, s_str, nb_sl, els_sl, nb_ov, els_ov, cs_pv, cs_agg, Int.toNat_natCast, toNat_sub1, toNat_add1, List.length_map, getD_map, ct, cf, beqd, bned, cp, cn, cnp, cnn, if_pos, if_neg, wrap64, Option.bind_some, Bool.not_true, Bool.not_false, List.isEmpty_nil, List.nil_append, List.length_nil, List.length_cons, Nat.zero_add]
      exact hag
    · unfold leak_Ramps_1_v2.b0_1
      simp (disch := omega) only [decide_true, decide_false, if_true, if_false, Bool.false_eq_true, Bool.true_eq_false, eq_self, Bool.true_or, Bool.false_or, Bool.true_and, Bool.false_and, Bool.or_true, Bool.or_false, Bool.and_true, Bool.and_false, List.getD_cons_zero, List.getD_cons_succ, cell_int, cell_bool, cell_str, cell_sl, cell_agg, i_int, b_bool, s_str, nb_sl, els_sl, nb_ov, els_ov, cs_pv, cs_agg, Int.toNat_natCast, toNat_sub1, toNat_add1, List.length_map, getD_map, ct, cf, beqd, bned, cp, cn, cnp, cnn, if_pos, if_neg, wrap64, Option.bind_some, Bool.not_true, Bool.not_false, List.isEmpty_nil, List.nil_append, List.length_nil, List.length_cons, Nat.zero_add, Int.add_sub_cancel, hop, not_ok]
      cases notH (hopF l a[i] a[i + 1])
      · simp (disch := omega) only [decide_true, decide_false, if_true, if_false, Bool.false_eq_true, Bool.true_eq_false, eq_self, Bool.true_or, Bool.false_or, Bool.true_and, Bool.false_and, Bool.or_true, Bool.or_false, Bool.and_true, Bool.and_false, List.getD_cons_zero, List.getD_cons_succ, cell_int, cell_bool, cell_str, cell_sl, cell_agg, i_int, b_bool, s_str, nb_sl, els_sl, nb_ov, els_ov, cs_pv, cs_agg, Int.toNat_natCast, toNat_sub1, toNat_add1, List.length_map, getD_map, ct, cf, beqd, bned, cp, cn, cnp, cnn, if_pos, if_neg, wrap64, Option.bind_some, Bool.not_true, Bool.not_false, List.isEmpty_nil, List.nil_append, List.length_nil, List.length_cons, Nat.zero_add]
        exact hag
      · simp (disch := omega) only [decide_true, decide_false, if_true, if_false, Bool.false_eq_true, Bool.true_eq_false, eq_self, Bool.true_or, Bool.false_or, Bool.true_and, Bool.false_and, Bool.or_true, Bool.or_false, Bool.and_true, Bool.and_false, List.getD_cons_zero, List.getD_cons_succ, cell_int, cell_bool, cell_str, cell_sl, cell_agg, i_int, b_bool, s_str, nb_sl, els_sl, nb_ov, els_ov, cs_pv, cs_agg, Int.toNat_natCast, toNat_sub1, toNat_add1, List.length_map, getD_map, ct, cf, beqd, bned, cp, cn, cnp, cnn, if_pos, if_neg, wrap64, Option.bind_some, Bool.not_true, Bool.not_false, List.isEmpty_nil, List.nil_append, List.length_nil, List.length_cons, Nat.zero_add]
        rfl

theorem reverse_ok (n : Bool) (L : List Int) (hL : L.length ≤ 100) : Cl ty tab 49 [.ov 23 n (U L)] = some [.ov 23 n (U L.reverse)] := by
  obtain ⟨k, hk⟩ := rounds
  refine s_slices_Reverse k _ _ ?_
  unfold slices_Reverse
  have := iter_wf (F := slices_Reverse.b0 (Cl ty tab) k (U L)) (σ := Nat × List Int) (fun s => [.int .i64 s.1, .int .i64 ((L.length : Int) - 1 - s.1), .ov 23 n (U s.2)]) (fun _ => some [.ov 23 n (U L.reverse)]) (fun s => L.length - s.1)
    (fun s => 2 * s.1 ≤ L.length + 1 ∧ s.2.length = L.length ∧ ∀ t (h : t < L.length), s.2[t]? = if t < s.1 ∨ L.length - s.1 ≤ t then L[L.length - 1 - t]? else L[t]?) (fun s hs again ha => ?_) k (0, L) ⟨by simp only; omega, rfl, fun t h => by simp [show ¬ L.length ≤ t by omega]⟩ (by simp only; omega)
  · simp (disch := omega) only [decide_true, decide_false, if_true, if_false, Bool.false_eq_true, Bool.true_eq_false, eq_self, Bool.true_or, Bool.false_or, Bool.true_and, Bool.false_and, Bool.or_true, Bool.or_false, Bool.and_true, Bool.and_false, List.getD_cons_zero, List.getD_cons_succ, cell_int, cell_bool, cell_str, cell_sl, cell_agg, i_int, b_bool, s_str, nb_sl, els_sl, nb_ov, els_ov, cs_pv, cs_agg, Int.toNat_natCast, toNat_sub1, toNat_add1, List.length_map, getD_map, ct, cf, beqd, bned, cp, cn, cnp, cnn, if_pos, if_neg, wrap64, Option.bind_some, Bool.not_true, Bool.not_false, List.isEmpty_nil, List.nil_append, List.length_nil, List.length_cons, Nat.zero_add, Int.natCast_zero, Int.sub_zero] at this ⊢
    exact this
  · obtain ⟨i, E⟩ := s
    simp only at hs ha
    obtain ⟨s1, s2, s3⟩ := hs
    unfold slices_Reverse.b0
    by_cases hlt : 2 * i + 1 < L.length
    · have hj : ((L.length : Int) - 1 - i) = ((L.length - 1 - i : Nat) : Int) := by omega
      have := ha (i + 1, (E.set i (E[L.length - 1 - i]'(by omega))).set (L.length - 1 - i) (E[i]'(by omega))) ⟨by simp only; omega, by simpa using s2, fun t h => by
        simp only
        have g1 := s3 i (by omega)
        have g2 := s3 (L.length - 1 - i) (by omega)
        have g3 := s3 t h
        rw [if_neg (by omega), List.getElem?_eq_getElem (by omega)] at g1 g2
        rw [List.getElem?_set, List.length_set, List.getElem?_set]
        by_cases e1 : L.length - 1 - i = t
        · subst e1
          rw [if_pos rfl, if_pos (by omega), if_pos (by omega), show L.length - 1 - (L.length - 1 - i) = i by omega, g1]
        · by_cases e2 : i = t
          · subst e2
            rw [if_neg e1, if_pos rfl, if_pos (by omega), if_pos (by omega), g2]
          · rw [if_neg e1, if_neg e2, g3]
            by_cases e3 : t < i ∨ L.length - i ≤ t
            · rw [if_pos e3, if_pos (by omega)]
            · rw [if_neg e3, if_neg (by omega)]⟩ (by simp only; omega)
      simp (disch := omega) only [decide_true, decide_false, if_true, if_false, Bool.false_eq_true, Bool.true_eq_false, eq_self, Bool.true_or, Bool.false_or, Bool.true_and, Bool.false_and, Bool.or_true, Bool.or_false, Bool.and_true, Bool.and_false, List.getD_cons_zero, List.getD_cons_succ, cell_int, cell_bool, cell_str, cell_sl, cell_agg, i_int, b_bool, s_str, nb_sl, els_sl, nb_ov, els_ov, cs_pv, cs_agg, Int.toNat_natCast, toNat_sub1, toNat_add1, List.length_map, getD_map, ct, cf, beqd, bned, cp, cn, cnp, cnn, if_pos, if_neg, wrap64, Option.bind_some, Bool.not_true, Bool.not_false, List.isEmpty_nil, List.nil_append, List.length_nil, List.length_cons, Nat.zero_add, hj, U, List.map_set] at this ⊢
      rw [show ((L.length - 1 - i : Nat) : Int) - 1 = (L.length : Int) - 1 - ((i : Int) + 1) by omega]
      exact this
    · have : E = L.reverse := by
        refine List.ext_getElem? fun t => ?_
        rcases Nat.lt_or_ge t L.length with h | h
        · rw [s3 t h, List.getElem?_reverse h]
          split
          · rfl
          · congr 1; omega
        · rw [List.getElem?_eq_none (by omega), List.getElem?_eq_none (by simpa using h)]
      simp (disch := omega) only [decide_true, decide_false, if_true, if_false, Bool.false_eq_true, Bool.true_eq_false, eq_self, Bool.true_or, Bool.false_or, Bool.true_and, Bool.false_and, Bool.or_true, Bool.or_false, Bool.and_true, Bool.and_false, List.getD_cons_zero, List.getD_cons_succ, cell_int, cell_bool, cell_str, cell_sl, cell_agg, i_int, b_bool, s_str, nb_sl, els_sl, nb_ov, els_ov, cs_pv, cs_agg, Int.toNat_natCast, toNat_sub1, toNat_add1, List.length_map, getD_map, ct, cf, beqd, bned, cp, cn, cnp, cnn, if_pos, if_neg, wrap64, Option.bind_some, Bool.not_true, Bool.not_false, List.isEmpty_nil, List.nil_append, List.length_nil, List.length_cons, Nat.zero_add, this]

/-- the ramps of a path -/
def rampD (l : List At) (a : List Int) : D := .agg [.int .i64 (cF l doubtH a.reverse), .int .i64 (cF l notH a.reverse), .int .i64 (cF l doubtH a), .int .i64 (cF l notH a)]
def zeroD : D := .agg [.int .i64 0, .int .i64 0, .int .i64 0, .int .i64 0]
/-- the error of a path -/
def errF (l : List At) (p : List Int) : Int := if checkF l = 0 then (if 30 < p.length then 4 else 0) else checkF l

theorem ramps_ok (n m : Bool) (l : List At) (p : List Int) (hl : Fine l) (hp : p.length ≤ 100) (hm : m = true → p = []) :
    Cl ty tab 20 [.sl 46 n (l.map At.d), .sl 23 m (U p)] = some (if errF l p = 0 then [rampD l (sqF p), .int .i64 0] else [zeroD, .int .i64 (errF l p)]) := by
  refine s_leak_Ramps 0 _ _ _ _ ?_
  unfold leak_Ramps errF
  have h1 := sq_len p
  by_cases hc : checkF l = 0
  · by_cases h2 : 30 < p.length
    · simp (disch := omega) only [decide_true, decide_false, if_true, if_false, Bool.false_eq_true, Bool.true_eq_false, eq_self, Bool.true_or, Bool.false_or, Bool.true_and, Bool.false_and, Bool.or_true, Bool.or_false, Bool.and_true, Bool.and_false, List.getD_cons_zero, List.getD_cons_succ, cell_int, cell_bool, cell_str, cell_sl, cell_agg, i_int, b_bool, s_str, nb_sl, els_sl, nb_ov, els_ov, cs_pv, cs_agg, Int.toNat_natCast, toNat_sub1, toNat_add1, List.length_map, getD_map, ct, cf, beqd, bned, cp, cn, cnp, cnn, if_pos, if_neg, wrap64, Option.bind_some, Bool.not_true, Bool.not_false, List.isEmpty_nil, List.nil_append, List.length_nil, List.length_cons, Nat.zero_add, check_ok n l hl, hc]
      rfl
    · simp (disch := omega) only [decide_true, decide_false, if_true, if_false, Bool.false_eq_true, Bool.true_eq_false, eq_self, Bool.true_or, Bool.false_or, Bool.true_and, Bool.false_and, Bool.or_true, Bool.or_false, Bool.and_true, Bool.and_false, List.getD_cons_zero, List.getD_cons_succ, cell_int, cell_bool, cell_str, cell_sl, cell_agg, i_int, b_bool, s_str, nb_sl, els_sl, nb_ov, els_ov, cs_pv, cs_agg, Int.toNat_natCast, toNat_sub1, toNat_add1, List.length_map, getD_map, ct, cf, beqd, bned, cp, cn, cnp, cnn, if_pos, if_neg, wrap64, Option.bind_some, Bool.not_true, Bool.not_false, List.isEmpty_nil, List.nil_append, List.length_nil, List.length_cons, Nat.zero_add, check_ok n l hl, hc, squeeze_ok m p (by omega) hm, reverse_ok m (sqF p) (by omega), climb_ok 48 doubtH (.inl ⟨rfl, rfl⟩) m n l (sqF p) hl hc (by omega), climb_ok 47 notH (.inr ⟨rfl, rfl⟩) m n l (sqF p) hl hc (by omega),
        climb_ok 48 doubtH (.inl ⟨rfl, rfl⟩) m n l (sqF p).reverse hl hc (by simp; omega), climb_ok 47 notH (.inr ⟨rfl, rfl⟩) m n l (sqF p).reverse hl hc (by simp; omega)]
      rfl
  · simp (disch := omega) only [decide_true, decide_false, if_true, if_false, Bool.false_eq_true, Bool.true_eq_false, eq_self, Bool.true_or, Bool.false_or, Bool.true_and, Bool.false_and, Bool.or_true, Bool.or_false, Bool.and_true, Bool.and_false, List.getD_cons_zero, List.getD_cons_succ, cell_int, cell_bool, cell_str, cell_sl, cell_agg, i_int, b_bool, s_str, nb_sl, els_sl, nb_ov, els_ov, cs_pv, cs_agg, Int.toNat_natCast, toNat_sub1, toNat_add1, List.length_map, getD_map, ct, cf, beqd, bned, cp, cn, cnp, cnn, if_pos, if_neg, wrap64, Option.bind_some, Bool.not_true, Bool.not_false, List.isEmpty_nil, List.nil_append, List.length_nil, List.length_cons, Nat.zero_add, check_ok n l hl, hc]
    rfl

theorem rup_ok (n : Bool) (p : List Int) (hp : p.length ≤ 100) : Cl ty tab 26 [.sl 23 n (U p)] = some [.ov 23 p.isEmpty (U (sqF p).reverse)] := by
  have h1 := sq_len p
  obtain ⟨k, hk⟩ := rounds
  refine s_gatepathref41_Up k _ _ ?_
  unfold gatepathref41_Up
  simp (disch := omega) only [decide_true, decide_false, if_true, if_false, Bool.false_eq_true, Bool.true_eq_false, eq_self, Bool.true_or, Bool.false_or, Bool.true_and, Bool.false_and, Bool.or_true, Bool.or_false, Bool.and_true, Bool.and_false, List.getD_cons_zero, List.getD_cons_succ, cell_int, cell_bool, cell_str, cell_sl, cell_agg, i_int, b_bool, s_str, nb_sl, els_sl, nb_ov, els_ov, cs_pv, cs_agg, Int.toNat_natCast, toNat_sub1, toNat_add1, List.length_map, getD_map, ct, cf, beqd, bned, cp, cn, cnp, cnn, if_pos, if_neg, wrap64, Option.bind_some, Bool.not_true, Bool.not_false, List.isEmpty_nil, List.nil_append, List.length_nil, List.length_cons, Nat.zero_add, rsqueeze_ok n p hp]
  have he : p.isEmpty = decide ((sqF p).length = 0) := by cases p <;> simp [sqF]
  rw [he]
  generalize sqF p = s at *
  have := iter_wf (F := gatepathref41_Up.b0 (Cl ty tab) k [.ov 23 (decide (s.length = 0)) (U s)]) (σ := Nat) (fun j => [.ov 23 (decide (j = s.length)) (U (s.drop j).reverse), .int .i64 ((j : Int) - 1), .ov 23 (decide (s.length = 0)) (U s)]) (fun _ => some [.ov 23 (decide (s.length = 0)) (U s.reverse)]) (fun j => j) (fun j => j ≤ s.length)
    (fun j hj again ha => ?_) k s.length (Nat.le_refl _) (by omega)
  · simp (disch := omega) only [decide_true, decide_false, if_true, if_false, Bool.false_eq_true, Bool.true_eq_false, eq_self, Bool.true_or, Bool.false_or, Bool.true_and, Bool.false_and, Bool.or_true, Bool.or_false, Bool.and_true, Bool.and_false, List.getD_cons_zero, List.getD_cons_succ, cell_int, cell_bool, cell_str, cell_sl, cell_agg, i_int, b_bool, s_str, nb_sl, els_sl, nb_ov, els_ov, cs_pv, cs_agg, Int.toNat_natCast, toNat_sub1, toNat_add1, List.length_map, getD_map, ct, cf, beqd, bned, cp, cn, cnp, cnn, if_pos, if_neg, wrap64, Option.bind_some, Bool.not_true, Bool.not_false, List.isEmpty_nil, List.nil_append, List.length_nil, List.length_cons, Nat.zero_add, List.drop_length, List.reverse_nil, List.map_nil] at this ⊢
    exact this
  · unfold gatepathref41_Up.b0
    cases j with
    | zero =>
      simp (disch := omega) only [decide_true, decide_false, if_true, if_false, Bool.false_eq_true, Bool.true_eq_false, eq_self, Bool.true_or, Bool.false_or, Bool.true_and, Bool.false_and, Bool.or_true, Bool.or_false, Bool.and_true, Bool.and_false, List.getD_cons_zero, List.getD_cons_succ, cell_int, cell_bool, cell_str, cell_sl, cell_agg, i_int, b_bool, s_str, nb_sl, els_sl, nb_ov, els_ov, cs_pv, cs_agg, Int.toNat_natCast, toNat_sub1, toNat_add1, List.length_map, getD_map, ct, cf, beqd, bned, cp, cn, cnp, cnn, if_pos, if_neg, wrap64, Option.bind_some, Bool.not_true, Bool.not_false, List.isEmpty_nil, List.nil_append, List.length_nil, List.length_cons, Nat.zero_add, Int.natCast_zero, List.drop_zero]
      rw [decide_eq_decide.2 (by omega : 0 = s.length ↔ s.length = 0)]
    | succ j =>
      have := ha j (by omega) (by omega)
      rw [List.drop_eq_getElem_cons (by omega : j < s.length)] at this
      simp (disch := omega) only [decide_true, decide_false, if_true, if_false, Bool.false_eq_true, Bool.true_eq_false, eq_self, Bool.true_or, Bool.false_or, Bool.true_and, Bool.false_and, Bool.or_true, Bool.or_false, Bool.and_true, Bool.and_false, List.getD_cons_zero, List.getD_cons_succ, cell_int, cell_bool, cell_str, cell_sl, cell_agg, i_int, b_bool, s_str, nb_sl, els_sl, nb_ov, els_ov, cs_pv, cs_agg, Int.toNat_natCast, toNat_sub1, toNat_add1, List.length_map, getD_map, ct, cf, beqd, bned, cp, cn, cnp, cnn, if_pos, if_neg, wrap64, Option.bind_some, Bool.not_true, Bool.not_false, List.isEmpty_nil, List.nil_append, List.length_nil, List.length_cons, Nat.zero_add, Int.natCast_add, Int.natCast_one, Int.add_sub_cancel, List.length_reverse, List.length_drop, dF, List.reverse_cons, List.map_append, List.map_cons, List.map_nil] at this ⊢
      exact this

theorem rclimb_ok (n m : Bool) (l : List At) (a : List Int) (hl : Fine l) (ha : a.length ≤ 100) : Cl ty tab 50 [.sl 46 n (l.map At.d), .sl 23 m (U a)] = some [.int .i64 (cF l doubtH a), .int .i64 (cF l notH a)] := by
  obtain ⟨k, hk⟩ := rounds
  refine s_gatepathref41_climb k _ _ _ _ ?_
  unfold gatepathref41_climb
  cases a with
  | nil =>
    obtain ⟨k, rfl⟩ : ∃ j, k = j + 1 := ⟨k - 1, by omega⟩
    unfold iter gatepathref41_climb.b0
    simp (disch := omega) only [decide_true, decide_false, if_true, if_false, Bool.false_eq_true, Bool.true_eq_false, eq_self, Bool.true_or, Bool.false_or, Bool.true_and, Bool.false_and, Bool.or_true, Bool.or_false, Bool.and_true, Bool.and_false, List.getD_cons_zero, List.getD_cons_succ, cell_int, cell_bool, cell_str, cell_sl, cell_agg, i_int, b_bool, s_str, nb_sl, els_sl, nb_ov, els_ov, cs_pv, cs_agg, Int.toNat_natCast, toNat_sub1, toNat_add1, List.length_map, getD_map, ct, cf, beqd, bned, cp, cn, cnp, cnn, if_pos, if_neg, wrap64, Option.bind_some, Bool.not_true, Bool.not_false, List.isEmpty_nil, List.nil_append, List.length_nil, List.length_cons, Nat.zero_add, List.map_nil, cF]
  | cons x t =>
    generalize hA : x :: t = a at *
    have hpos : 1 ≤ a.length := by rw [← hA]; simp
    have := iter_wf (F := gatepathref41_climb.b0 (Cl ty tab) k n (l.map At.d) (U a)) (σ := Nat) (fun j => [.int .i64 (j + cF l doubtH (a.drop j) : Nat), .int .i64 (j + cF l notH (a.drop j) : Nat), .int .i64 ((j : Int) - 1)]) (fun _ => some [.int .i64 (cF l doubtH a), .int .i64 (cF l notH a)]) (fun j => j) (fun j => j + 1 ≤ a.length)
      (fun j hj again hag => ?_) k (a.length - 1) (by omega) (by omega)
    · have e : a.drop (a.length - 1) = [a[a.length - 1]] := by rw [List.drop_eq_getElem_cons (by omega), List.drop_eq_nil_of_le (by omega)]
      rw [e, cF, cF, show a.length - 1 + 1 = a.length by omega, show ((a.length - 1 : Nat) : Int) - 1 = (a.length : Int) - 2 by omega] at this
      simp (disch := omega) only [decide_true, decide_false, if_true, if_false, Bool.false_eq_true, Bool.true_eq_false, eq_self, Bool.true_or, Bool.false_or, Bool.true_and, Bool.false_and, Bool.or_true, Bool.or_false, Bool.and_true, Bool.and_false, List.getD_cons_zero, List.getD_cons_succ, cell_int, cell_bool, cell_str, cell_sl, cell_agg, i_int, b_bool, s_str, nb_sl, els_sl, nb_ov, els_ov, cs_pv, cs_agg, Int.toNat_natCast, toNat_sub1, toNat_add1, List.length_map, getD_map, ct, cf, beqd, bned, cp, cn, cnp, cnn, if_pos, if_neg, wrap64, Option.bind_some, Bool.not_true, Bool.not_false, List.isEmpty_nil, List.nil_append, List.length_nil, List.length_cons, Nat.zero_add] at this ⊢
      exact this
    · unfold gatepathref41_climb.b0
      cases j with
      | zero => simp (disch := omega) only [decide_true, decide_false, if_true, if_false, Bool.false_eq_true, Bool.true_eq_false, eq_self, Bool.true_or, Bool.false_or, Bool.true_and, Bool.false_and, Bool.or_true, Bool.or_false, Bool.and_true, Bool.and_false, List.getD_cons_zero, List.getD_cons_succ, cell_int, cell_bool, cell_str, cell_sl, cell_agg, i_int, b_bool, s_str, nb_sl, els_sl, nb_ov, els_ov, cs_pv, cs_agg, Int.toNat_natCast, toNat_sub1, toNat_add1, List.length_map, getD_map, ct, cf, beqd, bned, cp, cn, cnp, cnn, if_pos, if_neg, wrap64, Option.bind_some, Bool.not_true, Bool.not_false, List.isEmpty_nil, List.nil_append, List.length_nil, List.length_cons, Nat.zero_add, Int.natCast_zero, List.drop_zero]
      | succ j =>
        have h1 := hag j (by omega) (by omega)
        have hlt : j + 1 < a.length := by omega
        rw [drop2 hlt, cF, cF] at h1
        rw [← List.drop_eq_getElem_cons hlt] at h1
        have c1 := cF_le l doubtH (a.drop (j + 1))
        have c2 := cF_le l notH (a.drop (j + 1))
        rw [List.length_drop] at c1 c2
        by_cases h2 : hopF l a[j] a[j + 1] = 2
        · have en : notH (hopF l a[j] a[j + 1]) = true := by simp [notH, h2]
          have ed : doubtH (hopF l a[j] a[j + 1]) = true := by simp [doubtH, h2]
          rw [en, ed] at h1
          simp (disch := omega) only [decide_true, decide_false, if_true, if_false, Bool.false_eq_true, Bool.true_eq_false, eq_self, Bool.true_or, Bool.false_or, Bool.true_and, Bool.false_and, Bool.or_true, Bool.or_false, Bool.and_true, Bool.and_false, List.getD_cons_zero, List.getD_cons_succ, cell_int, cell_bool, cell_str, cell_sl, cell_agg, i_int, b_bool, s_str, nb_sl, els_sl, nb_ov, els_ov, cs_pv, cs_agg, Int.toNat_natCast, toNat_sub1, toNat_add1, List.length_map, getD_map, ct, cf, beqd, bned, cp, cn, cnp, cnn, if_pos, if_neg, wrap64, Option.bind_some, Bool.not_true, Bool.not_false, List.isEmpty_nil, List.nil_append, List.length_nil, List.length_cons, Nat.zero_add, Int.natCast_add, Int.natCast_one, Int.add_sub_cancel, known_ok n l _ _ hl] at h1 ⊢
          exact h1
        · by_cases h3 : hopF l a[j] a[j + 1] = 1
          · have en : notH (hopF l a[j] a[j + 1]) = false := by simp [notH, h2]
            have ed : doubtH (hopF l a[j] a[j + 1]) = false := by simp [doubtH, h3]
            rw [en, ed] at h1
            simp (disch := omega) only [decide_true, decide_false, if_true, if_false, Bool.false_eq_true, Bool.true_eq_false, eq_self, Bool.true_or, Bool.false_or, Bool.true_and, Bool.false_and, Bool.or_true, Bool.or_false, Bool.and_true, Bool.and_false, List.getD_cons_zero, List.getD_cons_succ, cell_int, cell_bool, cell_str, cell_sl, cell_agg, i_int, b_bool, s_str, nb_sl, els_sl, nb_ov, els_ov, cs_pv, cs_agg, Int.toNat_natCast, toNat_sub1, toNat_add1, List.length_map, getD_map, ct, cf, beqd, bned, cp, cn, cnp, cnn, if_pos, if_neg, wrap64, Option.bind_some, Bool.not_true, Bool.not_false, List.isEmpty_nil, List.nil_append, List.length_nil, List.length_cons, Nat.zero_add, Int.natCast_add, Int.natCast_one, Int.add_sub_cancel, known_ok n l _ _ hl] at h1 ⊢
            have e : ∀ x : Int, (j : Int) + 1 + x = j + (x + 1) := fun x => by omega
            simp only [e]
            exact h1
          · have en : notH (hopF l a[j] a[j + 1]) = false := by simp [notH, h2]
            have ed : doubtH (hopF l a[j] a[j + 1]) = true := by simp [doubtH, h3]
            rw [en, ed] at h1
            simp (disch := omega) only [decide_true, decide_false, if_true, if_false, Bool.false_eq_true, Bool.true_eq_false, eq_self, Bool.true_or, Bool.false_or, Bool.true_and, Bool.false_and, Bool.or_true, Bool.or_false, Bool.and_true, Bool.and_false, List.getD_cons_zero, List.getD_cons_succ, cell_int, cell_bool, cell_str, cell_sl, cell_agg, i_int, b_bool, s_str, nb_sl, els_sl, nb_ov, els_ov, cs_pv, cs_agg, Int.toNat_natCast, toNat_sub1, toNat_add1, List.length_map, getD_map, ct, cf, beqd, bned, cp, cn, cnp, cnn, if_pos, if_neg, wrap64, Option.bind_some, Bool.not_true, Bool.not_false, List.isEmpty_nil, List.nil_append, List.length_nil, List.length_cons, Nat.zero_add, Int.natCast_add, Int.natCast_one, Int.add_sub_cancel, known_ok n l _ _ hl] at h1 ⊢
            have e : ∀ x : Int, (j : Int) + 1 + x = j + (x + 1) := fun x => by omega
            simp only [e]
            exact h1

theorem rramps_ok (n m : Bool) (l : List At) (p : List Int) (hl : Fine l) (hp : p.length ≤ 100) :
    Cl ty tab 21 [.sl 46 n (l.map At.d), .sl 23 m (U p)] = some (if errF l p = 0 then [rampD l (sqF p), .int .i64 0] else [zeroD, .int .i64 (errF l p)]) := by
  refine s_gatepathref41_Ramps 0 _ _ _ _ ?_
  unfold gatepathref41_Ramps errF
  have h1 := sq_len p
  by_cases hc : checkF l = 0
  · by_cases h2 : 30 < p.length
    · simp (disch := omega) only [decide_true, decide_false, if_true, if_false, Bool.false_eq_true, Bool.true_eq_false, eq_self, Bool.true_or, Bool.false_or, Bool.true_and, Bool.false_and, Bool.or_true, Bool.or_false, Bool.and_true, Bool.and_false, List.getD_cons_zero, List.getD_cons_succ, cell_int, cell_bool, cell_str, cell_sl, cell_agg, i_int, b_bool, s_str, nb_sl, els_sl, nb_ov, els_ov, cs_pv, cs_agg, Int.toNat_natCast, toNat_sub1, toNat_add1, List.length_map, getD_map, ct, cf, beqd, bned, cp, cn, cnp, cnn, if_pos, if_neg, wrap64, Option.bind_some, Bool.not_true, Bool.not_false, List.isEmpty_nil, List.nil_append, List.length_nil, List.length_cons, Nat.zero_add, rcheck_ok n l hl, hc]
      rfl
    · simp (disch := omega) only [decide_true, decide_false, if_true, if_false, Bool.false_eq_true, Bool.true_eq_false, eq_self, Bool.true_or, Bool.false_or, Bool.true_and, Bool.false_and, Bool.or_true, Bool.or_false, Bool.and_true, Bool.and_false, List.getD_cons_zero, List.getD_cons_succ, cell_int, cell_bool, cell_str, cell_sl, cell_agg, i_int, b_bool, s_str, nb_sl, els_sl, nb_ov, els_ov, cs_pv, cs_agg, Int.toNat_natCast, toNat_sub1, toNat_add1, List.length_map, getD_map, ct, cf, beqd, bned, cp, cn, cnp, cnn, if_pos, if_neg, wrap64, Option.bind_some, Bool.not_true, Bool.not_false, List.isEmpty_nil, List.nil_append, List.length_nil, List.length_cons, Nat.zero_add, rcheck_ok n l hl, hc, rup_ok m p hp, rsqueeze_ok m p hp, rclimb_ok n p.isEmpty l (sqF p) hl (by omega), rclimb_ok n p.isEmpty l (sqF p).reverse hl (by simp; omega)]
      rfl
  · simp (disch := omega) only [decide_true, decide_false, if_true, if_false, Bool.false_eq_true, Bool.true_eq_false, eq_self, Bool.true_or, Bool.false_or, Bool.true_and, Bool.false_and, Bool.or_true, Bool.or_false, Bool.and_true, Bool.and_false, List.getD_cons_zero, List.getD_cons_succ, cell_int, cell_bool, cell_str, cell_sl, cell_agg, i_int, b_bool, s_str, nb_sl, els_sl, nb_ov, els_ov, cs_pv, cs_agg, Int.toNat_natCast, toNat_sub1, toNat_add1, List.length_map, getD_map, ct, cf, beqd, bned, cp, cn, cnp, cnn, if_pos, if_neg, wrap64, Option.bind_some, Bool.not_true, Bool.not_false, List.isEmpty_nil, List.nil_append, List.length_nil, List.length_cons, Nat.zero_add, rcheck_ok n l hl, hc]
    rfl

end Go.Proofs.Ytklbnnkdkkcgoaa.Own
