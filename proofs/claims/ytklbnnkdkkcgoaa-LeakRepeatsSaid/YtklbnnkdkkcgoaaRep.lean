import Derived.Test.YtklbnnkdkkcgoaaG
import Derived.Test.YtklbnnkdkkcgoaaHops0
import Derived.Test.YtklbnnkdkkcgoaaRLeakRepeats
namespace Go.Proofs.Ytklbnnkdkkcgoaa.Own
open Go Go.Proofs.Ytklbnnkdkkcgoaa.GD
set_option linter.unusedVariables false
set_option linter.unusedSimpArgs false

theorem tl_rep (x : Int) (B : List Int) : ∀ (n : Nat) (y : Int), tlF y (List.replicate n x ++ x :: B) = tlF y (x :: B)
  | 0, y => rfl
  | n + 1, y => by
    rw [List.replicate_succ, List.cons_append, tlF, tl_rep x B n y, tl_rep x B n x]
    by_cases h : x = y
    · subst h; simp [tlF]
    · simp [tlF, h]

theorem tl_app (x : Int) (n : Nat) (B : List Int) : ∀ (A : List Int) (y : Int), tlF y (A ++ List.replicate n x ++ x :: B) = tlF y (A ++ x :: B)
  | [], y => tl_rep x B n y
  | a :: A, y => by
    simp only [List.cons_append, tlF]
    rw [tl_app x n B A y, tl_app x n B A a]

theorem sq_app (x : Int) (n : Nat) (B A : List Int) : sqF (A ++ List.replicate n x ++ x :: B) = sqF (A ++ x :: B) := by
  cases A with
  | nil =>
    cases n with
    | zero => rfl
    | succ n =>
      rw [List.nil_append, List.nil_append, List.replicate_succ, List.cons_append, sqF, sqF, tl_rep x B n x]
      simp [tlF]
  | cons a A =>
    simp only [List.cons_append, sqF]
    rw [tl_app]

theorem tl_adj : ∀ (L : List Int) (x : Int) (i : Nat) (h : i + 1 < (x :: tlF x L).length), (x :: tlF x L)[i] ≠ (x :: tlF x L)[i + 1]
  | [], x, i, h => by simp [tlF] at h
  | b :: t, x, i, h => by
    by_cases e : b = x
    · have e2 : tlF x (b :: t) = tlF x t := by simp [tlF, e]
      simp only [e2] at h ⊢
      exact tl_adj t x i h
    · have e2 : tlF x (b :: t) = b :: tlF b t := by simp [tlF, e]
      simp only [e2] at h ⊢
      cases i with
      | zero => simpa using fun h2 => e h2.symm
      | succ i => exact tl_adj t b i (by simpa using h)

theorem sq_adj (L : List Int) (i : Nat) (h : i + 1 < (sqF L).length) : (sqF L)[i] ≠ (sqF L)[i + 1] := by
  cases L with
  | nil => simp [sqF] at h
  | cons a t => exact tl_adj t a i h

theorem errF_zero {l : List At} {p : List Int} (h : checkF l = 0) (h2 : p.length ≤ 30) : errF l p = 0 := by
  unfold errF
  rw [if_pos h, if_neg (by omega)]

theorem leakRepeats_cl (n : Bool) (l : List At) (m : Bool) (L : List Int) (x5 x6 : Int) (hl : Fine l) (hm : m = true → L = []) (h5 : -9223372036854775808 ≤ x5 ∧ x5 ≤ 9223372036854775807) (h6 : -9223372036854775808 ≤ x6 ∧ x6 ≤ 9223372036854775807) :
    Cl ty tab 6 [.sl 46 n (l.map At.d), .sl 23 m (U L), .int .i64 x5, .int .i64 x6] = some [.bool true] := by
  obtain ⟨k, hk⟩ := rounds
  refine s_gatepathlaw41_LeakRepeats k _ _ _ _ _ _ ?_
  unfold gatepathlaw41_LeakRepeats
  simp (disch := omega) only [decide_true, decide_false, if_true, if_false, Bool.false_eq_true, Bool.true_eq_false, eq_self, Bool.true_or, Bool.false_or, Bool.true_and, Bool.false_and, Bool.or_true, Bool.or_false, Bool.and_true, Bool.and_false, List.getD_cons_zero, List.getD_cons_succ, cell_int, cell_bool, cell_str, cell_sl, cell_agg, i_int, b_bool, s_str, nb_sl, els_sl, nb_ov, els_ov, cs_pv, cs_agg, Int.toNat_natCast, toNat_sub1, toNat_add1, List.length_map, getD_map, ct, cf, beqd, bned, cp, cn, cnp, cnn, if_pos, if_neg, wrap64, Option.bind_some, Bool.not_true, Bool.not_false, List.isEmpty_nil, List.nil_append, List.length_nil, List.length_cons, Nat.zero_add, alive_ok, great_ok n l hl.len]
  cases hg : greatF l
  case true => simp (disch := omega) only [decide_true, decide_false, if_true, if_false, Bool.false_eq_true, Bool.true_eq_false, eq_self, Bool.true_or, Bool.false_or, Bool.true_and, Bool.false_and, Bool.or_true, Bool.or_false, Bool.and_true, Bool.and_false, List.getD_cons_zero, List.getD_cons_succ, cell_int, cell_bool, cell_str, cell_sl, cell_agg, i_int, b_bool, s_str, nb_sl, els_sl, nb_ov, els_ov, cs_pv, cs_agg, Int.toNat_natCast, toNat_sub1, toNat_add1, List.length_map, getD_map, ct, cf, beqd, bned, cp, cn, cnp, cnn, if_pos, if_neg, wrap64, Option.bind_some, Bool.not_true, Bool.not_false, List.isEmpty_nil, List.nil_append, List.length_nil, List.length_cons, Nat.zero_add]
  by_cases hc : checkF l = 0
  case neg => simp (disch := omega) only [decide_true, decide_false, if_true, if_false, Bool.false_eq_true, Bool.true_eq_false, eq_self, Bool.true_or, Bool.false_or, Bool.true_and, Bool.false_and, Bool.or_true, Bool.or_false, Bool.and_true, Bool.and_false, List.getD_cons_zero, List.getD_cons_succ, cell_int, cell_bool, cell_str, cell_sl, cell_agg, i_int, b_bool, s_str, nb_sl, els_sl, nb_ov, els_ov, cs_pv, cs_agg, Int.toNat_natCast, toNat_sub1, toNat_add1, List.length_map, getD_map, ct, cf, beqd, bned, cp, cn, cnp, cnn, if_pos, if_neg, wrap64, Option.bind_some, Bool.not_true, Bool.not_false, List.isEmpty_nil, List.nil_append, List.length_nil, List.length_cons, Nat.zero_add, rcheck_ok n l hl]
  by_cases g1 : x5 < 0
  · simp (disch := omega) only [decide_true, decide_false, if_true, if_false, Bool.false_eq_true, Bool.true_eq_false, eq_self, Bool.true_or, Bool.false_or, Bool.true_and, Bool.false_and, Bool.or_true, Bool.or_false, Bool.and_true, Bool.and_false, List.getD_cons_zero, List.getD_cons_succ, cell_int, cell_bool, cell_str, cell_sl, cell_agg, i_int, b_bool, s_str, nb_sl, els_sl, nb_ov, els_ov, cs_pv, cs_agg, Int.toNat_natCast, toNat_sub1, toNat_add1, List.length_map, getD_map, ct, cf, beqd, bned, cp, cn, cnp, cnn, if_pos, if_neg, wrap64, Option.bind_some, Bool.not_true, Bool.not_false, List.isEmpty_nil, List.nil_append, List.length_nil, List.length_cons, Nat.zero_add, rcheck_ok n l hl, hc, ne_eq, not_true_eq_false]
  by_cases g2 : (L.length : Int) ≤ x5
  · simp (disch := omega) only [decide_true, decide_false, if_true, if_false, Bool.false_eq_true, Bool.true_eq_false, eq_self, Bool.true_or, Bool.false_or, Bool.true_and, Bool.false_and, Bool.or_true, Bool.or_false, Bool.and_true, Bool.and_false, List.getD_cons_zero, List.getD_cons_succ, cell_int, cell_bool, cell_str, cell_sl, cell_agg, i_int, b_bool, s_str, nb_sl, els_sl, nb_ov, els_ov, cs_pv, cs_agg, Int.toNat_natCast, toNat_sub1, toNat_add1, List.length_map, getD_map, ct, cf, beqd, bned, cp, cn, cnp, cnn, if_pos, if_neg, wrap64, Option.bind_some, Bool.not_true, Bool.not_false, List.isEmpty_nil, List.nil_append, List.length_nil, List.length_cons, Nat.zero_add, rcheck_ok n l hl, hc, ne_eq, not_true_eq_false]
  by_cases g3 : x6 < 0
  · simp (disch := omega) only [decide_true, decide_false, if_true, if_false, Bool.false_eq_true, Bool.true_eq_false, eq_self, Bool.true_or, Bool.false_or, Bool.true_and, Bool.false_and, Bool.or_true, Bool.or_false, Bool.and_true, Bool.and_false, List.getD_cons_zero, List.getD_cons_succ, cell_int, cell_bool, cell_str, cell_sl, cell_agg, i_int, b_bool, s_str, nb_sl, els_sl, nb_ov, els_ov, cs_pv, cs_agg, Int.toNat_natCast, toNat_sub1, toNat_add1, List.length_map, getD_map, ct, cf, beqd, bned, cp, cn, cnp, cnn, if_pos, if_neg, wrap64, Option.bind_some, Bool.not_true, Bool.not_false, List.isEmpty_nil, List.nil_append, List.length_nil, List.length_cons, Nat.zero_add, rcheck_ok n l hl, hc, ne_eq, not_true_eq_false]
  by_cases g4 : 30 < L.length
  · simp (disch := omega) only [decide_true, decide_false, if_true, if_false, Bool.false_eq_true, Bool.true_eq_false, eq_self, Bool.true_or, Bool.false_or, Bool.true_and, Bool.false_and, Bool.or_true, Bool.or_false, Bool.and_true, Bool.and_false, List.getD_cons_zero, List.getD_cons_succ, cell_int, cell_bool, cell_str, cell_sl, cell_agg, i_int, b_bool, s_str, nb_sl, els_sl, nb_ov, els_ov, cs_pv, cs_agg, Int.toNat_natCast, toNat_sub1, toNat_add1, List.length_map, getD_map, ct, cf, beqd, bned, cp, cn, cnp, cnn, if_pos, if_neg, wrap64, Option.bind_some, Bool.not_true, Bool.not_false, List.isEmpty_nil, List.nil_append, List.length_nil, List.length_cons, Nat.zero_add, rcheck_ok n l hl, hc, ne_eq, not_true_eq_false]
  by_cases g5 : 30 - (L.length : Int) < x6
  · simp (disch := omega) only [decide_true, decide_false, if_true, if_false, Bool.false_eq_true, Bool.true_eq_false, eq_self, Bool.true_or, Bool.false_or, Bool.true_and, Bool.false_and, Bool.or_true, Bool.or_false, Bool.and_true, Bool.and_false, List.getD_cons_zero, List.getD_cons_succ, cell_int, cell_bool, cell_str, cell_sl, cell_agg, i_int, b_bool, s_str, nb_sl, els_sl, nb_ov, els_ov, cs_pv, cs_agg, Int.toNat_natCast, toNat_sub1, toNat_add1, List.length_map, getD_map, ct, cf, beqd, bned, cp, cn, cnp, cnn, if_pos, if_neg, wrap64, Option.bind_some, Bool.not_true, Bool.not_false, List.isEmpty_nil, List.nil_append, List.length_nil, List.length_cons, Nat.zero_add, rcheck_ok n l hl, hc, ne_eq, not_true_eq_false]
  obtain ⟨a, rfl⟩ : ∃ a : Nat, x5 = a := ⟨x5.toNat, by omega⟩
  obtain ⟨r, rfl⟩ : ∃ r : Nat, x6 = r := ⟨x6.toNat, by omega⟩
  have ha : a < L.length := by omega
  have e0 : L = L.take a ++ L[a] :: L.drop (a + 1) := by rw [← List.drop_eq_getElem_cons ha, List.take_append_drop]
  have esq : sqF (L.take a ++ List.replicate r L[a] ++ L.drop a) = sqF L := by
    rw [List.drop_eq_getElem_cons ha, sq_app]
    rw [← e0]
  have hlen : (L.take a ++ List.replicate r L[a] ++ L.drop a).length = L.length + r := by simp; omega
  have hq := sq_len L
  simp (disch := omega) only [decide_true, decide_false, if_true, if_false, Bool.false_eq_true, Bool.true_eq_false, eq_self, Bool.true_or, Bool.false_or, Bool.true_and, Bool.false_and, Bool.or_true, Bool.or_false, Bool.and_true, Bool.and_false, List.getD_cons_zero, List.getD_cons_succ, cell_int, cell_bool, cell_str, cell_sl, cell_agg, i_int, b_bool, s_str, nb_sl, els_sl, nb_ov, els_ov, cs_pv, cs_agg, Int.toNat_natCast, toNat_sub1, toNat_add1, List.length_map, getD_map, ct, cf, beqd, bned, cp, cn, cnp, cnn, if_pos, if_neg, wrap64, Option.bind_some, Bool.not_true, Bool.not_false, List.isEmpty_nil, List.nil_append, List.length_nil, List.length_cons, Nat.zero_add, rcheck_ok n l hl, hc, ne_eq, not_true_eq_false, Int.toNat_zero, List.drop_zero, Nat.sub_zero, List.length_take]
  have h1 : errF l L = 0 := errF_zero hc (by omega)
  have h2 : errF l (L.take a ++ List.replicate r L[a] ++ L.drop a) = 0 := errF_zero hc (by omega)
  have fin : ∀ i, 1 ≤ i → ∀ again, (i < (sqF L).length → again [.int .i64 (i + 1 : Nat), .ov 23 false (U (L.take a ++ List.replicate r L[a] ++ L.drop a)), .ov 23 false (U (sqF L))] = some [.bool true]) →
      gatepathlaw41_LeakRepeats.b1 (Cl ty tab) k n (l.map At.d) m (U L) [.bool true] [.ov 23 false (U (sqF L))] [.int .i64 i, .ov 23 false (U (L.take a ++ List.replicate r L[a] ++ L.drop a)), .ov 23 false (U (sqF L))] again = some [.bool true] := by
    intro i hi again hag
    unfold gatepathlaw41_LeakRepeats.b1
    rcases Nat.lt_or_ge i (sqF L).length with hlt | hge
    · obtain ⟨j, rfl⟩ : ∃ j, i = j + 1 := ⟨i - 1, by omega⟩
      have hne := sq_adj L j hlt
      have hne2 : ¬ (sqF L)[j + 1] = (sqF L)[j] := fun e => hne e.symm
      have := hag hlt
      simp (disch := omega) only [decide_true, decide_false, if_true, if_false, Bool.false_eq_true, Bool.true_eq_false, eq_self, Bool.true_or, Bool.false_or, Bool.true_and, Bool.false_and, Bool.or_true, Bool.or_false, Bool.and_true, Bool.and_false, List.getD_cons_zero, List.getD_cons_succ, cell_int, cell_bool, cell_str, cell_sl, cell_agg, i_int, b_bool, s_str, nb_sl, els_sl, nb_ov, els_ov, cs_pv, cs_agg, Int.toNat_natCast, toNat_sub1, toNat_add1, List.length_map, getD_map, ct, cf, beqd, bned, cp, cn, cnp, cnn, if_pos, if_neg, wrap64, Option.bind_some, Bool.not_true, Bool.not_false, List.isEmpty_nil, List.nil_append, List.length_nil, List.length_cons, Nat.zero_add, Int.natCast_add, Int.natCast_one, Int.add_sub_cancel] at this ⊢
      exact this
    · simp (disch := omega) only [decide_true, decide_false, if_true, if_false, Bool.false_eq_true, Bool.true_eq_false, eq_self, Bool.true_or, Bool.false_or, Bool.true_and, Bool.false_and, Bool.or_true, Bool.or_false, Bool.and_true, Bool.and_false, List.getD_cons_zero, List.getD_cons_succ, cell_int, cell_bool, cell_str, cell_sl, cell_agg, i_int, b_bool, s_str, nb_sl, els_sl, nb_ov, els_ov, cs_pv, cs_agg, Int.toNat_natCast, toNat_sub1, toNat_add1, List.length_map, getD_map, ct, cf, beqd, bned, cp, cn, cnp, cnn, if_pos, if_neg, wrap64, Option.bind_some, Bool.not_true, Bool.not_false, List.isEmpty_nil, List.nil_append, List.length_nil, List.length_cons, Nat.zero_add, ramps_ok n m l L hl (by omega) hm, ramps_ok n false l (L.take a ++ List.replicate r L[a] ++ L.drop a) hl (by omega) (by simp), downstream_ok n m l L hl (by omega) hm, downstream_ok n false l (L.take a ++ List.replicate r L[a] ++ L.drop a) hl (by omega) (by simp), h1, h2, esq, tell, rampD]
  have inner : iter k (gatepathlaw41_LeakRepeats.b1 (Cl ty tab) k n (l.map At.d) m (U L) [.bool true] [.ov 23 false (U (sqF L))]) [.int .i64 1, .ov 23 false (U (L.take a ++ List.replicate r L[a] ++ L.drop a)), .ov 23 false (U (sqF L))] = some [.bool true] := by
    refine iter_wf (F := gatepathlaw41_LeakRepeats.b1 (Cl ty tab) k n (l.map At.d) m (U L) [.bool true] [.ov 23 false (U (sqF L))]) (σ := Nat) (fun i => [.int .i64 i, .ov 23 false (U (L.take a ++ List.replicate r L[a] ++ L.drop a)), .ov 23 false (U (sqF L))]) (fun _ => some [.bool true]) (fun i => L.length - i) (fun i => 1 ≤ i) (fun i hi again hag => ?_) k 1 (Nat.le_refl _) (by omega)
    exact fin i hi again fun hlt => hag (i + 1) (by omega) (by omega)
  have := iter_ix (F := gatepathlaw41_LeakRepeats.b0 (Cl ty tab) k n (l.map At.d) m (U L) a r [.bool true]) r (fun j => [.ov 23 false (U (L.take a ++ List.replicate j L[a])), .int .i64 j]) (fun _ => some [.bool true]) (fun j hj again hag => ?_) (fun again => ?_) k (by omega) 0 (by omega)
  · simpa [U, List.map_take] using this
  · unfold gatepathlaw41_LeakRepeats.b0
    have e : List.replicate (j + 1) L[a] = List.replicate j L[a] ++ [L[a]] := List.replicate_succ'
    rw [e] at hag
    simp (disch := omega) only [decide_true, decide_false, if_true, if_false, Bool.false_eq_true, Bool.true_eq_false, eq_self, Bool.true_or, Bool.false_or, Bool.true_and, Bool.false_and, Bool.or_true, Bool.or_false, Bool.and_true, Bool.and_false, List.getD_cons_zero, List.getD_cons_succ, cell_int, cell_bool, cell_str, cell_sl, cell_agg, i_int, b_bool, s_str, nb_sl, els_sl, nb_ov, els_ov, cs_pv, cs_agg, Int.toNat_natCast, toNat_sub1, toNat_add1, List.length_map, getD_map, ct, cf, beqd, bned, cp, cn, cnp, cnn, if_pos, if_neg, wrap64, Option.bind_some, Bool.not_true, Bool.not_false, List.isEmpty_nil, List.nil_append, List.length_nil, List.length_cons, Nat.zero_add, List.length_append, List.length_take, List.length_replicate, Int.natCast_add, Int.natCast_one, ← List.append_assoc, List.map_append, List.map_cons, List.map_nil] at hag ⊢
    exact hag
  · unfold gatepathlaw41_LeakRepeats.b0
    have e : ((U L).drop a).take (L.length - a) = U (L.drop a) := by rw [List.take_of_length_le (by simp), U, U, List.map_drop]
    have e2 : U (L.take a ++ List.replicate r L[a]) ++ U (L.drop a) = U (L.take a ++ List.replicate r L[a] ++ L.drop a) := by simp [U]
    simp (disch := omega) only [decide_true, decide_false, if_true, if_false, Bool.false_eq_true, Bool.true_eq_false, eq_self, Bool.true_or, Bool.false_or, Bool.true_and, Bool.false_and, Bool.or_true, Bool.or_false, Bool.and_true, Bool.and_false, List.getD_cons_zero, List.getD_cons_succ, cell_int, cell_bool, cell_str, cell_sl, cell_agg, i_int, b_bool, s_str, nb_sl, els_sl, nb_ov, els_ov, cs_pv, cs_agg, Int.toNat_natCast, toNat_sub1, toNat_add1, List.length_map, getD_map, ct, cf, beqd, bned, cp, cn, cnp, cnn, if_pos, if_neg, wrap64, Option.bind_some, Bool.not_true, Bool.not_false, List.isEmpty_nil, List.nil_append, List.length_nil, List.length_cons, Nat.zero_add, e, e2, List.length_append, List.length_take, List.length_replicate, List.length_drop, squeeze_ok false _ (by omega : (L.take a ++ List.replicate r L[a] ++ L.drop a).length ≤ 100) (by simp), esq, squeeze_ok m L (by omega) hm, same_ok false m (sqF L) (sqF L) (by omega)]
    exact inner

theorem leakRepeats_law : LawTrue ty tab 6 [⟨false, [.sl 46]⟩, ⟨false, [.sl 23]⟩, ⟨false, [.int .i64]⟩, ⟨false, [.int .i64]⟩] := by
  refine lawTrue_of fun dd hf hw => ?_
  obtain ⟨d1, dd, rfl, h1, hf⟩ := fitsV_cons hf
  obtain ⟨d2, dd, rfl, h2, hf⟩ := fitsV_cons hf
  obtain ⟨d3, dd, rfl, h3, hf⟩ := fitsV_cons hf
  obtain ⟨d4, dd, rfl, h4, hf⟩ := fitsV_cons hf
  obtain rfl := fitsV_nil hf
  obtain ⟨n, els, rfl⟩ := fits_sl (fits_one h1)
  obtain ⟨m, els2, rfl⟩ := fits_sl (fits_one h2)
  obtain ⟨x, rfl⟩ := fits_int (fits_one h3)
  obtain ⟨y, rfl⟩ := fits_int (fits_one h4)
  obtain ⟨l, rfl, hl⟩ := ats_of (hw (.sl 46 n els) (by simp))
  obtain ⟨L, rfl, hL, hm, _⟩ := ints_of (hw (.sl 23 m els2) (by simp))
  exact leakRepeats_cl _ _ _ _ _ _ hl hm (hw (.int .i64 x) (by simp)).rng (hw (.int .i64 y) (by simp)).rng

end Go.Proofs.Ytklbnnkdkkcgoaa.Own
