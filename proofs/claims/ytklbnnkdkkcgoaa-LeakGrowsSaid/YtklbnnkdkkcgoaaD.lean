import Derived.Test.YtklbnnkdkkcgoaaB
namespace Go.Proofs.Ytklbnnkdkkcgoaa.Own
open Go Go.Proofs.Ytklbnnkdkkcgoaa.GD
set_option linter.unusedVariables false
set_option linter.unusedSimpArgs false

theorem known_ok (n : Bool) (l : List At) (c p : Int) (hl : Fine l) : Cl ty tab 37 [.sl 46 n (l.map At.d), .int .u32 c, .int .u32 p] = some [.int .u8 (hopF l c p)] := by
  have hl1 := hl.len
  obtain ⟨k, hk⟩ := rounds
  refine s_gatepathref41_Known k _ _ _ _ ?_
  unfold gatepathref41_Known
  refine iter_list (F := gatepathref41_Known.b0 (Cl ty tab) k (l.map At.d) c p) l (fun i => [.int .i64 i]) (fun t => some [.int .u8 (hopF t c p)]) (fun i hi again ha => ?_) (fun again => ?_) k (by omega)
  · have hp := hl.plen l[i] (List.getElem_mem hi)
    unfold gatepathref41_Known.b0
    unfold hopF
    rw [List.find?_cons]
    by_cases h1 : l[i].c = c
    · simp (disch := omega) only [decide_true, decide_false, if_true, if_false, Bool.false_eq_true, Bool.true_eq_false, eq_self, Bool.true_or, Bool.false_or, Bool.true_and, Bool.false_and, Bool.or_true, Bool.or_false, Bool.and_true, Bool.and_false, List.getD_cons_zero, List.getD_cons_succ, cell_int, cell_bool, cell_str, cell_sl, cell_agg, i_int, b_bool, s_str, nb_sl, els_sl, nb_ov, els_ov, cs_pv, cs_agg, Int.toNat_natCast, toNat_sub1, toNat_add1, List.length_map, getD_map, ct, cf, beqd, bned, cp, cn, cnp, cnn, if_pos, if_neg, wrap64, Option.bind_some, Bool.not_true, Bool.not_false, List.isEmpty_nil, List.nil_append, List.length_nil, List.length_cons, Nat.zero_add, At.d, h1, ne_eq, not_true_eq_false]
      refine iter_list (F := gatepathref41_Known.b1 (Cl ty tab) k (l.map At.d) p [.int .i64 i]) l[i].p (fun j => [.int .i64 j]) (fun t => some [.int .u8 (if p ∈ t ∧ p ≠ 0 then 1 else 2)]) (fun j hj ag hg => ?_) (fun ag => ?_) k (by omega)
      · unfold gatepathref41_Known.b1
        by_cases h2 : l[i].p[j] = p
        · by_cases h3 : p = 0
          · subst h3
            simp (disch := omega) only [decide_true, decide_false, if_true, if_false, Bool.false_eq_true, Bool.true_eq_false, eq_self, Bool.true_or, Bool.false_or, Bool.true_and, Bool.false_and, Bool.or_true, Bool.or_false, Bool.and_true, Bool.and_false, List.getD_cons_zero, List.getD_cons_succ, cell_int, cell_bool, cell_str, cell_sl, cell_agg, i_int, b_bool, s_str, nb_sl, els_sl, nb_ov, els_ov, cs_pv, cs_agg, Int.toNat_natCast, toNat_sub1, toNat_add1, List.length_map, getD_map, ct, cf, beqd, bned, cp, cn, cnp, cnn, if_pos, if_neg, wrap64, Option.bind_some, Bool.not_true, Bool.not_false, List.isEmpty_nil, List.nil_append, List.length_nil, List.length_cons, Nat.zero_add, At.d, h2, ne_eq, not_true_eq_false, and_false] at hg ⊢
            exact hg
          · simp (disch := omega) only [decide_true, decide_false, if_true, if_false, Bool.false_eq_true, Bool.true_eq_false, eq_self, Bool.true_or, Bool.false_or, Bool.true_and, Bool.false_and, Bool.or_true, Bool.or_false, Bool.and_true, Bool.and_false, List.getD_cons_zero, List.getD_cons_succ, cell_int, cell_bool, cell_str, cell_sl, cell_agg, i_int, b_bool, s_str, nb_sl, els_sl, nb_ov, els_ov, cs_pv, cs_agg, Int.toNat_natCast, toNat_sub1, toNat_add1, List.length_map, getD_map, ct, cf, beqd, bned, cp, cn, cnp, cnn, if_pos, if_neg, wrap64, Option.bind_some, Bool.not_true, Bool.not_false, List.isEmpty_nil, List.nil_append, List.length_nil, List.length_cons, Nat.zero_add, At.d, h2, h3, ne_eq, not_false_eq_true, List.mem_cons, true_or, and_true]
        · have h4 : ¬ p = l[i].p[j] := fun e => h2 e.symm
          simp (disch := omega) only [decide_true, decide_false, if_true, if_false, Bool.false_eq_true, Bool.true_eq_false, eq_self, Bool.true_or, Bool.false_or, Bool.true_and, Bool.false_and, Bool.or_true, Bool.or_false, Bool.and_true, Bool.and_false, List.getD_cons_zero, List.getD_cons_succ, cell_int, cell_bool, cell_str, cell_sl, cell_agg, i_int, b_bool, s_str, nb_sl, els_sl, nb_ov, els_ov, cs_pv, cs_agg, Int.toNat_natCast, toNat_sub1, toNat_add1, List.length_map, getD_map, ct, cf, beqd, bned, cp, cn, cnp, cnn, if_pos, if_neg, wrap64, Option.bind_some, Bool.not_true, Bool.not_false, List.isEmpty_nil, List.nil_append, List.length_nil, List.length_cons, Nat.zero_add, At.d, h4, List.mem_cons, false_or]
          exact hg
      · unfold gatepathref41_Known.b1
        simp (disch := omega) only [decide_true, decide_false, if_true, if_false, Bool.false_eq_true, Bool.true_eq_false, eq_self, Bool.true_or, Bool.false_or, Bool.true_and, Bool.false_and, Bool.or_true, Bool.or_false, Bool.and_true, Bool.and_false, List.getD_cons_zero, List.getD_cons_succ, cell_int, cell_bool, cell_str, cell_sl, cell_agg, i_int, b_bool, s_str, nb_sl, els_sl, nb_ov, els_ov, cs_pv, cs_agg, Int.toNat_natCast, toNat_sub1, toNat_add1, List.length_map, getD_map, ct, cf, beqd, bned, cp, cn, cnp, cnn, if_pos, if_neg, wrap64, Option.bind_some, Bool.not_true, Bool.not_false, List.isEmpty_nil, List.nil_append, List.length_nil, List.length_cons, Nat.zero_add, At.d, List.not_mem_nil, false_and]
    · simp (disch := omega) only [decide_true, decide_false, if_true, if_false, Bool.false_eq_true, Bool.true_eq_false, eq_self, Bool.true_or, Bool.false_or, Bool.true_and, Bool.false_and, Bool.or_true, Bool.or_false, Bool.and_true, Bool.and_false, List.getD_cons_zero, List.getD_cons_succ, cell_int, cell_bool, cell_str, cell_sl, cell_agg, i_int, b_bool, s_str, nb_sl, els_sl, nb_ov, els_ov, cs_pv, cs_agg, Int.toNat_natCast, toNat_sub1, toNat_add1, List.length_map, getD_map, ct, cf, beqd, bned, cp, cn, cnp, cnn, if_pos, if_neg, wrap64, Option.bind_some, Bool.not_true, Bool.not_false, List.isEmpty_nil, List.nil_append, List.length_nil, List.length_cons, Nat.zero_add, At.d, h1]
      exact ha
  · unfold gatepathref41_Known.b0
    simp (disch := omega) only [decide_true, decide_false, if_true, if_false, Bool.false_eq_true, Bool.true_eq_false, eq_self, Bool.true_or, Bool.false_or, Bool.true_and, Bool.false_and, Bool.or_true, Bool.or_false, Bool.and_true, Bool.and_false, List.getD_cons_zero, List.getD_cons_succ, cell_int, cell_bool, cell_str, cell_sl, cell_agg, i_int, b_bool, s_str, nb_sl, els_sl, nb_ov, els_ov, cs_pv, cs_agg, Int.toNat_natCast, toNat_sub1, toNat_add1, List.length_map, getD_map, ct, cf, beqd, bned, cp, cn, cnp, cnn, if_pos, if_neg, wrap64, Option.bind_some, Bool.not_true, Bool.not_false, List.isEmpty_nil, List.nil_append, List.length_nil, List.length_cons, Nat.zero_add, hopF, List.find?_nil]

theorem rHop_ok (n : Bool) (l : List At) (c p : Int) (hl : Fine l) : Cl ty tab 13 [.sl 46 n (l.map At.d), .int .u32 c, .int .u32 p] = some (if checkF l = 0 then [.int .u8 (hopF l c p), .int .i64 0] else [.int .u8 0, .int .i64 (checkF l)]) := by
  refine s_gatepathref41_Hop 0 _ _ _ _ ?_
  unfold gatepathref41_Hop
  by_cases h : checkF l = 0
  · simp (disch := omega) only [decide_true, decide_false, if_true, if_false, Bool.false_eq_true, Bool.true_eq_false, eq_self, Bool.true_or, Bool.false_or, Bool.true_and, Bool.false_and, Bool.or_true, Bool.or_false, Bool.and_true, Bool.and_false, List.getD_cons_zero, List.getD_cons_succ, cell_int, cell_bool, cell_str, cell_sl, cell_agg, i_int, b_bool, s_str, nb_sl, els_sl, nb_ov, els_ov, cs_pv, cs_agg, Int.toNat_natCast, toNat_sub1, toNat_add1, List.length_map, getD_map, ct, cf, beqd, bned, cp, cn, cnp, cnn, if_pos, if_neg, wrap64, Option.bind_some, Bool.not_true, Bool.not_false, List.isEmpty_nil, List.nil_append, List.length_nil, List.length_cons, Nat.zero_add, rcheck_ok n l hl, known_ok n l c p hl, ne_eq, not_true_eq_false, h]
  · simp (disch := omega) only [decide_true, decide_false, if_true, if_false, Bool.false_eq_true, Bool.true_eq_false, eq_self, Bool.true_or, Bool.false_or, Bool.true_and, Bool.false_and, Bool.or_true, Bool.or_false, Bool.and_true, Bool.and_false, List.getD_cons_zero, List.getD_cons_succ, cell_int, cell_bool, cell_str, cell_sl, cell_agg, i_int, b_bool, s_str, nb_sl, els_sl, nb_ov, els_ov, cs_pv, cs_agg, Int.toNat_natCast, toNat_sub1, toNat_add1, List.length_map, getD_map, ct, cf, beqd, bned, cp, cn, cnp, cnn, if_pos, if_neg, wrap64, Option.bind_some, Bool.not_true, Bool.not_false, List.isEmpty_nil, List.nil_append, List.length_nil, List.length_cons, Nat.zero_add, rcheck_ok n l hl]

/-- what is left of a path behind the system x -/
def tlF : Int → List Int → List Int
  | _, [] => []
  | x, b :: t => if b = x then tlF x t else b :: tlF b t

/-- a path without repeated systems -/
def sqF : List Int → List Int
  | [] => []
  | a :: t => a :: tlF a t

abbrev U (l : List Int) : List D := l.map (D.int .u32)

theorem same_ok (n m : Bool) (a b : List Int) (ha : a.length ≤ 9223372036854775807) : Cl ty tab 17 [.sl 23 n (U a), .sl 23 m (U b)] = some [.bool (decide (a = b))] := by
  obtain ⟨k, hk⟩ := rounds
  refine s_gatepathref41_SameSystems k _ _ _ _ ?_
  unfold gatepathref41_SameSystems
  by_cases h : a.length = b.length
  · simp (disch := omega) only [decide_true, decide_false, if_true, if_false, Bool.false_eq_true, Bool.true_eq_false, eq_self, Bool.true_or, Bool.false_or, Bool.true_and, Bool.false_and, Bool.or_true, Bool.or_false, Bool.and_true, Bool.and_false, List.getD_cons_zero, List.getD_cons_succ, cell_int, cell_bool, cell_str, cell_sl, cell_agg, i_int, b_bool, s_str, nb_sl, els_sl, nb_ov, els_ov, cs_pv, cs_agg, Int.toNat_natCast, toNat_sub1, toNat_add1, List.length_map, getD_map, ct, cf, beqd, bned, cp, cn, cnp, cnn, if_pos, if_neg, wrap64, Option.bind_some, Bool.not_true, Bool.not_false, List.isEmpty_nil, List.nil_append, List.length_nil, List.length_cons, Nat.zero_add, h, ne_eq, not_true_eq_false]
    have := iter_ix (F := gatepathref41_SameSystems.b0 (Cl ty tab) k (U a) (U b)) a.length (fun i => [.int .i64 i]) (fun i => some [.bool (decide (a.drop i = b.drop i))]) (fun i hi again h2 => ?_) (fun again => ?_) k (by omega) 0 (by omega)
    · simpa using this
    · have hi2 : i < b.length := by omega
      unfold gatepathref41_SameSystems.b0
      rw [List.drop_eq_getElem_cons hi, List.drop_eq_getElem_cons hi2]
      by_cases h3 : a[i] = b[i]
      · simp (disch := omega) only [decide_true, decide_false, if_true, if_false, Bool.false_eq_true, Bool.true_eq_false, eq_self, Bool.true_or, Bool.false_or, Bool.true_and, Bool.false_and, Bool.or_true, Bool.or_false, Bool.and_true, Bool.and_false, List.getD_cons_zero, List.getD_cons_succ, cell_int, cell_bool, cell_str, cell_sl, cell_agg, i_int, b_bool, s_str, nb_sl, els_sl, nb_ov, els_ov, cs_pv, cs_agg, Int.toNat_natCast, toNat_sub1, toNat_add1, List.length_map, getD_map, ct, cf, beqd, bned, cp, cn, cnp, cnn, if_pos, if_neg, wrap64, Option.bind_some, Bool.not_true, Bool.not_false, List.isEmpty_nil, List.nil_append, List.length_nil, List.length_cons, Nat.zero_add, h3, ne_eq, not_true_eq_false, List.cons.injEq, true_and]
        exact h2
      · simp (disch := omega) only [decide_true, decide_false, if_true, if_false, Bool.false_eq_true, Bool.true_eq_false, eq_self, Bool.true_or, Bool.false_or, Bool.true_and, Bool.false_and, Bool.or_true, Bool.or_false, Bool.and_true, Bool.and_false, List.getD_cons_zero, List.getD_cons_succ, cell_int, cell_bool, cell_str, cell_sl, cell_agg, i_int, b_bool, s_str, nb_sl, els_sl, nb_ov, els_ov, cs_pv, cs_agg, Int.toNat_natCast, toNat_sub1, toNat_add1, List.length_map, getD_map, ct, cf, beqd, bned, cp, cn, cnp, cnn, if_pos, if_neg, wrap64, Option.bind_some, Bool.not_true, Bool.not_false, List.isEmpty_nil, List.nil_append, List.length_nil, List.length_cons, Nat.zero_add, h3, ne_eq, not_false_eq_true, List.cons.injEq, false_and]
    · unfold gatepathref41_SameSystems.b0
      have e : b.drop a.length = [] := by rw [h]; exact List.drop_length
      simp (disch := omega) only [decide_true, decide_false, if_true, if_false, Bool.false_eq_true, Bool.true_eq_false, eq_self, Bool.true_or, Bool.false_or, Bool.true_and, Bool.false_and, Bool.or_true, Bool.or_false, Bool.and_true, Bool.and_false, List.getD_cons_zero, List.getD_cons_succ, cell_int, cell_bool, cell_str, cell_sl, cell_agg, i_int, b_bool, s_str, nb_sl, els_sl, nb_ov, els_ov, cs_pv, cs_agg, Int.toNat_natCast, toNat_sub1, toNat_add1, List.length_map, getD_map, ct, cf, beqd, bned, cp, cn, cnp, cnn, if_pos, if_neg, wrap64, Option.bind_some, Bool.not_true, Bool.not_false, List.isEmpty_nil, List.nil_append, List.length_nil, List.length_cons, Nat.zero_add, List.drop_length, e]
  · have h2 : ¬ a = b := fun e => h (by rw [e])
    simp (disch := omega) only [decide_true, decide_false, if_true, if_false, Bool.false_eq_true, Bool.true_eq_false, eq_self, Bool.true_or, Bool.false_or, Bool.true_and, Bool.false_and, Bool.or_true, Bool.or_false, Bool.and_true, Bool.and_false, List.getD_cons_zero, List.getD_cons_succ, cell_int, cell_bool, cell_str, cell_sl, cell_agg, i_int, b_bool, s_str, nb_sl, els_sl, nb_ov, els_ov, cs_pv, cs_agg, Int.toNat_natCast, toNat_sub1, toNat_add1, List.length_map, getD_map, ct, cf, beqd, bned, cp, cn, cnp, cnn, if_pos, if_neg, wrap64, Option.bind_some, Bool.not_true, Bool.not_false, List.isEmpty_nil, List.nil_append, List.length_nil, List.length_cons, Nat.zero_add, h2]

theorem clone_ok (n : Bool) (l : List Int) (hl : l.length ≤ 100) (hn : n = true → l = []) : Cl ty tab 39 [.sl 23 n (U l)] = some [.ov 23 n (U l)] := by
  refine s_slices_Clone 0 _ _ ?_
  unfold slices_Clone
  cases n with
  | true => rw [hn rfl]; rfl
  | false => simp (disch := omega) only [decide_true, decide_false, if_true, if_false, Bool.false_eq_true, Bool.true_eq_false, eq_self, Bool.true_or, Bool.false_or, Bool.true_and, Bool.false_and, Bool.or_true, Bool.or_false, Bool.and_true, Bool.and_false, List.getD_cons_zero, List.getD_cons_succ, cell_int, cell_bool, cell_str, cell_sl, cell_agg, i_int, b_bool, s_str, nb_sl, els_sl, nb_ov, els_ov, cs_pv, cs_agg, Int.toNat_natCast, toNat_sub1, toNat_add1, List.length_map, getD_map, ct, cf, beqd, bned, cp, cn, cnp, cnn, if_pos, if_neg, wrap64, Option.bind_some, Bool.not_true, Bool.not_false, List.isEmpty_nil, List.nil_append, List.length_nil, List.length_cons, Nat.zero_add]

theorem tl_inner (k : Nat) (hk : 9223372036854775808 < k) (L : List Int) (hL : L.length ≤ 100) (n : Bool) (k0 : Nat) (h0 : 1 ≤ k0) (h1 : k0 < L.length) (he : sqF L = L.take k0 ++ tlF L[k0] (L.drop (k0 + 1))) (W : D) :
    iter k (slices_Compact.b1 (Cl ty tab) k (U L) [.int .i64 k0, W]) [.int .i64 k0, .int .i64 1, .ov 23 n (U L)] = some [.ov 23 n (U (sqF L))] := by
  have := iter_wf (F := slices_Compact.b1 (Cl ty tab) k (U L) [.int .i64 k0, W]) (σ := Nat × Nat × List Int) (fun s => [.int .i64 s.1, .int .i64 s.2.1, .ov 23 n (U s.2.2)]) (fun _ => some [.ov 23 n (U (sqF L))]) (fun s => L.length - s.2.1)
    (fun s => s.2.2.length = L.length ∧ s.1 + 1 ≤ k0 + s.2.1 ∧ 1 ≤ s.2.1 ∧ k0 + s.2.1 ≤ L.length ∧ s.2.2.drop s.1 = L.drop s.1 ∧ ∃ x, L[k0 + s.2.1 - 1]? = some x ∧ sqF L = s.2.2.take s.1 ++ tlF x (L.drop (k0 + s.2.1))) (fun s hs again ha => ?_) k (k0, 1, L) ?_ (by omega)
  · exact this
  · obtain ⟨kk, k2, E⟩ := s
    simp only at hs ha
    obtain ⟨s1, s2, s3, s4, s5, x, s6, s7⟩ := hs
    have hg : ∀ i, kk ≤ i → E[i]? = L[i]? := by
      intro i hi
      have := congrArg (fun l => l[i - kk]?) s5
      simpa [List.getElem?_drop, show kk + (i - kk) = i by omega] using this
    have hgd : ∀ j, j < L.length - k0 → (((U E).drop k0).take (L.length - k0)).getD j .undef = (U E).getD (k0 + j) .undef := by
      intro j hj
      simp [List.getD_eq_getElem?_getD, List.getElem?_take, hj]
    unfold slices_Compact.b1
    rcases Nat.lt_or_ge (k0 + k2) L.length with hlt | hge
    · have hl1 : k0 + k2 - 1 < L.length := by omega
      rw [List.getElem?_eq_getElem hl1] at s6
      cases s6
      have e1 : E[k0 + k2]'(by omega) = L[k0 + k2] := by
        have := hg (k0 + k2) (by omega)
        rw [List.getElem?_eq_getElem (by omega), List.getElem?_eq_getElem hlt] at this
        exact Option.some.inj this
      have e2 : E[k0 + (k2 - 1)]'(by omega) = L[k0 + k2 - 1] := by
        have := hg (k0 + (k2 - 1)) (by omega)
        rw [List.getElem?_eq_getElem (by omega), List.getElem?_eq_getElem (by omega)] at this
        have e : k0 + (k2 - 1) = k0 + k2 - 1 := by omega
        simp only [e] at this ⊢
        exact Option.some.inj this
      rw [List.drop_eq_getElem_cons hlt] at s7
      by_cases h2 : L[k0 + k2] = L[k0 + k2 - 1]
      · have := ha (kk, k2 + 1, E) ⟨s1, by simp only; omega, by simp only; omega, by simp only; omega, s5, L[k0 + k2], by simp only [show k0 + (k2 + 1) - 1 = k0 + k2 by omega]; exact List.getElem?_eq_getElem hlt, by
          rw [tlF, if_pos h2] at s7
          simp only
          rw [s7, h2]
          rfl⟩ (by simp only; omega)
        simp (disch := omega) only [decide_true, decide_false, if_true, if_false, Bool.false_eq_true, Bool.true_eq_false, eq_self, Bool.true_or, Bool.false_or, Bool.true_and, Bool.false_and, Bool.or_true, Bool.or_false, Bool.and_true, Bool.and_false, List.getD_cons_zero, List.getD_cons_succ, cell_int, cell_bool, cell_str, cell_sl, cell_agg, i_int, b_bool, s_str, nb_sl, els_sl, nb_ov, els_ov, cs_pv, cs_agg, Int.toNat_natCast, toNat_sub1, toNat_add1, List.length_map, getD_map, ct, cf, beqd, bned, cp, cn, cnp, cnn, if_pos, if_neg, wrap64, Option.bind_some, Bool.not_true, Bool.not_false, List.isEmpty_nil, List.nil_append, List.length_nil, List.length_cons, Nat.zero_add, hgd, e1, e2, h2, ne_eq, not_true_eq_false]
        simpa using this
      · have := ha (kk + 1, k2 + 1, E.set kk L[k0 + k2]) ⟨by simpa using s1, by simp only; omega, by simp only; omega, by simp only; omega, by
          simp only
          rw [List.drop_set, if_pos (by omega)]
          have := congrArg (List.drop 1) s5
          simpa [List.drop_drop] using this, L[k0 + k2], by simp only [show k0 + (k2 + 1) - 1 = k0 + k2 by omega]; exact List.getElem?_eq_getElem hlt, by
          rw [tlF, if_neg h2] at s7
          simp only
          rw [s7, List.take_add_one]
          simp only [List.take_set, List.getElem?_set, List.length_set, show kk < E.length by omega, if_true, Option.toList_some, List.append_assoc, List.singleton_append]
          rw [List.set_eq_of_length_le (by simp; omega)]
          rfl⟩ (by simp only; omega)
        simp (disch := omega) only [decide_true, decide_false, if_true, if_false, Bool.false_eq_true, Bool.true_eq_false, eq_self, Bool.true_or, Bool.false_or, Bool.true_and, Bool.false_and, Bool.or_true, Bool.or_false, Bool.and_true, Bool.and_false, List.getD_cons_zero, List.getD_cons_succ, cell_int, cell_bool, cell_str, cell_sl, cell_agg, i_int, b_bool, s_str, nb_sl, els_sl, nb_ov, els_ov, cs_pv, cs_agg, Int.toNat_natCast, toNat_sub1, toNat_add1, List.length_map, getD_map, ct, cf, beqd, bned, cp, cn, cnp, cnn, if_pos, if_neg, wrap64, Option.bind_some, Bool.not_true, Bool.not_false, List.isEmpty_nil, List.nil_append, List.length_nil, List.length_cons, Nat.zero_add, hgd, e1, e2, ne_eq]
        rw [show (U E).set kk (D.int .u32 L[k0 + k2]) = U (E.set kk L[k0 + k2]) by simp [U, List.map_set]]
        simpa using this
    · have e3 : L.drop (k0 + k2) = [] := List.drop_eq_nil_of_le hge
      rw [e3, tlF, List.append_nil] at s7
      simp (disch := omega) only [decide_true, decide_false, if_true, if_false, Bool.false_eq_true, Bool.true_eq_false, eq_self, Bool.true_or, Bool.false_or, Bool.true_and, Bool.false_and, Bool.or_true, Bool.or_false, Bool.and_true, Bool.and_false, List.getD_cons_zero, List.getD_cons_succ, cell_int, cell_bool, cell_str, cell_sl, cell_agg, i_int, b_bool, s_str, nb_sl, els_sl, nb_ov, els_ov, cs_pv, cs_agg, Int.toNat_natCast, toNat_sub1, toNat_add1, List.length_map, getD_map, ct, cf, beqd, bned, cp, cn, cnp, cnn, if_pos, if_neg, wrap64, Option.bind_some, Bool.not_true, Bool.not_false, List.isEmpty_nil, List.nil_append, List.length_nil, List.length_cons, Nat.zero_add]
      rw [s7]
      rw [show kk - Int.toNat 0 = kk by simp, List.take_append_of_le_length (by simp; omega), List.take_take, Nat.min_self, U, U, List.map_take]
  · refine ⟨rfl, by simp, by simp, by simp; omega, rfl, L[k0], by simp [h1], he⟩

theorem sq_take : ∀ (i : Nat) (L : List Int) (hi : i < L.length), (∀ j (hj : j + 1 ≤ i), L[j + 1] ≠ L[j]) → sqF L = L.take (i + 1) ++ tlF L[i] (L.drop (i + 1))
  | 0, a :: t, hi, h => by simp [sqF]
  | i + 1, a :: b :: t, hi, h => by
    have h0 := h 0 (by omega)
    have ih := sq_take i (b :: t) (by simpa using hi) (fun j hj => h (j + 1) (by omega))
    simp only [List.getElem_cons_succ, List.getElem_cons_zero] at h0
    simp only [sqF, tlF, h0, if_false] at ih ⊢
    rw [ih]
    simp
  | i + 1, [a], hi, h => by simp at hi

theorem compact_ok (n : Bool) (L : List Int) (hL : L.length ≤ 100) : Cl ty tab 38 [.ov 23 n (U L)] = some [.ov 23 n (U (sqF L))] := by
  obtain ⟨k, hk⟩ := rounds
  refine s_slices_Compact k _ _ ?_
  unfold slices_Compact
  have := iter_wf (F := slices_Compact.b0 (Cl ty tab) k (U L)) (σ := Nat) (fun i => [.int .i64 i, .ov 23 n (U L)]) (fun _ => some [.ov 23 n (U (sqF L))]) (fun i => L.length + 1 - i)
    (fun i => 1 ≤ i ∧ i ≤ L.length + 1 ∧ ∀ j (hj : j + 1 < i) (h2 : j + 1 < L.length), L[j + 1] ≠ L[j]) (fun i hs again ha => ?_) k 1 ⟨Nat.le_refl _, by omega, fun j hj => by omega⟩ (by omega)
  · by_cases h : L.length < 2
    · simp (disch := omega) only [decide_true, decide_false, if_true, if_false, Bool.false_eq_true, Bool.true_eq_false, eq_self, Bool.true_or, Bool.false_or, Bool.true_and, Bool.false_and, Bool.or_true, Bool.or_false, Bool.and_true, Bool.and_false, List.getD_cons_zero, List.getD_cons_succ, cell_int, cell_bool, cell_str, cell_sl, cell_agg, i_int, b_bool, s_str, nb_sl, els_sl, nb_ov, els_ov, cs_pv, cs_agg, Int.toNat_natCast, toNat_sub1, toNat_add1, List.length_map, getD_map, ct, cf, beqd, bned, cp, cn, cnp, cnn, if_pos, if_neg, wrap64, Option.bind_some, Bool.not_true, Bool.not_false, List.isEmpty_nil, List.nil_append, List.length_nil, List.length_cons, Nat.zero_add]
      match L, h with
      | [], _ => rfl
      | [a], _ => rfl
    · simp (disch := omega) only [decide_true, decide_false, if_true, if_false, Bool.false_eq_true, Bool.true_eq_false, eq_self, Bool.true_or, Bool.false_or, Bool.true_and, Bool.false_and, Bool.or_true, Bool.or_false, Bool.and_true, Bool.and_false, List.getD_cons_zero, List.getD_cons_succ, cell_int, cell_bool, cell_str, cell_sl, cell_agg, i_int, b_bool, s_str, nb_sl, els_sl, nb_ov, els_ov, cs_pv, cs_agg, Int.toNat_natCast, toNat_sub1, toNat_add1, List.length_map, getD_map, ct, cf, beqd, bned, cp, cn, cnp, cnn, if_pos, if_neg, wrap64, Option.bind_some, Bool.not_true, Bool.not_false, List.isEmpty_nil, List.nil_append, List.length_nil, List.length_cons, Nat.zero_add]
      exact this
  · obtain ⟨s1, s2, s3⟩ := hs
    unfold slices_Compact.b0
    rcases Nat.lt_or_ge i L.length with hlt | hge
    · obtain ⟨j, rfl⟩ : ∃ j, i = j + 1 := ⟨i - 1, by omega⟩
      by_cases h2 : L[j + 1] = L[j]
      · have hs := sq_take j L (by omega) (fun q hq => s3 q (by omega) (by omega))
        rw [List.drop_eq_getElem_cons hlt, tlF, if_pos h2, ← h2] at hs
        have := tl_inner k hk L hL n (j + 1) s1 hlt hs (.ov 23 n (U L))
        simp (disch := omega) only [decide_true, decide_false, if_true, if_false, Bool.false_eq_true, Bool.true_eq_false, eq_self, Bool.true_or, Bool.false_or, Bool.true_and, Bool.false_and, Bool.or_true, Bool.or_false, Bool.and_true, Bool.and_false, List.getD_cons_zero, List.getD_cons_succ, cell_int, cell_bool, cell_str, cell_sl, cell_agg, i_int, b_bool, s_str, nb_sl, els_sl, nb_ov, els_ov, cs_pv, cs_agg, Int.toNat_natCast, toNat_sub1, toNat_add1, List.length_map, getD_map, ct, cf, beqd, bned, cp, cn, cnp, cnn, if_pos, if_neg, wrap64, Option.bind_some, Bool.not_true, Bool.not_false, List.isEmpty_nil, List.nil_append, List.length_nil, List.length_cons, Nat.zero_add, Int.natCast_add, Int.natCast_one, Int.add_sub_cancel, h2] at this ⊢
        exact this
      · have := ha (j + 1 + 1) ⟨by omega, by omega, fun q hq h3 => by
          rcases Nat.lt_or_ge (q + 1) (j + 1) with h4 | h4
          · exact s3 q h4 h3
          · have : q = j := by omega
            subst this; exact h2⟩ (by omega)
        simp (disch := omega) only [decide_true, decide_false, if_true, if_false, Bool.false_eq_true, Bool.true_eq_false, eq_self, Bool.true_or, Bool.false_or, Bool.true_and, Bool.false_and, Bool.or_true, Bool.or_false, Bool.and_true, Bool.and_false, List.getD_cons_zero, List.getD_cons_succ, cell_int, cell_bool, cell_str, cell_sl, cell_agg, i_int, b_bool, s_str, nb_sl, els_sl, nb_ov, els_ov, cs_pv, cs_agg, Int.toNat_natCast, toNat_sub1, toNat_add1, List.length_map, getD_map, ct, cf, beqd, bned, cp, cn, cnp, cnn, if_pos, if_neg, wrap64, Option.bind_some, Bool.not_true, Bool.not_false, List.isEmpty_nil, List.nil_append, List.length_nil, List.length_cons, Nat.zero_add, Int.natCast_add, Int.natCast_one, Int.add_sub_cancel] at this ⊢
        exact this
    · simp (disch := omega) only [decide_true, decide_false, if_true, if_false, Bool.false_eq_true, Bool.true_eq_false, eq_self, Bool.true_or, Bool.false_or, Bool.true_and, Bool.false_and, Bool.or_true, Bool.or_false, Bool.and_true, Bool.and_false, List.getD_cons_zero, List.getD_cons_succ, cell_int, cell_bool, cell_str, cell_sl, cell_agg, i_int, b_bool, s_str, nb_sl, els_sl, nb_ov, els_ov, cs_pv, cs_agg, Int.toNat_natCast, toNat_sub1, toNat_add1, List.length_map, getD_map, ct, cf, beqd, bned, cp, cn, cnp, cnn, if_pos, if_neg, wrap64, Option.bind_some, Bool.not_true, Bool.not_false, List.isEmpty_nil, List.nil_append, List.length_nil, List.length_cons, Nat.zero_add]
      cases L with
      | nil => rfl
      | cons a t =>
        have hs := sq_take t.length (a :: t) (by simp) (fun q hq => s3 q (by simp at hge; omega) (by simp; omega))
        rw [hs]
        simp [tlF]

theorem squeeze_ok (n : Bool) (L : List Int) (hL : L.length ≤ 100) (hn : n = true → L = []) : Cl ty tab 14 [.sl 23 n (U L)] = some [.ov 23 n (U (sqF L))] := by
  refine s_leak_Squeeze 0 _ _ ?_
  unfold leak_Squeeze
  simp (disch := omega) only [decide_true, decide_false, if_true, if_false, Bool.false_eq_true, Bool.true_eq_false, eq_self, Bool.true_or, Bool.false_or, Bool.true_and, Bool.false_and, Bool.or_true, Bool.or_false, Bool.and_true, Bool.and_false, List.getD_cons_zero, List.getD_cons_succ, cell_int, cell_bool, cell_str, cell_sl, cell_agg, i_int, b_bool, s_str, nb_sl, els_sl, nb_ov, els_ov, cs_pv, cs_agg, Int.toNat_natCast, toNat_sub1, toNat_add1, List.length_map, getD_map, ct, cf, beqd, bned, cp, cn, cnp, cnn, if_pos, if_neg, wrap64, Option.bind_some, Bool.not_true, Bool.not_false, List.isEmpty_nil, List.nil_append, List.length_nil, List.length_cons, Nat.zero_add, clone_ok n L hL hn, compact_ok n L hL]

theorem tl_len : ∀ (x : Int) (L : List Int), (tlF x L).length ≤ L.length
  | _, [] => Nat.le_refl _
  | x, b :: t => by unfold tlF; split; have := tl_len x t; simp; omega; have := tl_len b t; simp; omega

theorem sq_len (L : List Int) : (sqF L).length ≤ L.length := by
  cases L with
  | nil => exact Nat.le_refl _
  | cons a t => simp only [sqF, List.length_cons]; have := tl_len a t; omega

/-- what is left of a path, behind i systems -/
def restF (L : List Int) (i : Nat) : List Int := match i with | 0 => sqF L | j + 1 => match L[j]? with | some x => tlF x (L.drop (j + 1)) | none => []

theorem rsqueeze_ok (n : Bool) (L : List Int) (hL : L.length ≤ 100) : Cl ty tab 18 [.sl 23 n (U L)] = some [.ov 23 L.isEmpty (U (sqF L))] := by
  obtain ⟨k, hk⟩ := rounds
  refine s_gatepathref41_Squeeze k _ _ ?_
  unfold gatepathref41_Squeeze
  have := iter_wf (F := gatepathref41_Squeeze.b0 (Cl ty tab) k (U L)) (σ := List Int × Nat) (fun s => [.ov 23 (decide (s.2 = 0)) (U s.1), .int .i64 s.2]) (fun _ => some [.ov 23 L.isEmpty (U (sqF L))]) (fun s => L.length - s.2)
    (fun s => s.2 ≤ L.length ∧ s.1.length ≤ s.2 ∧ sqF L = s.1 ++ restF L s.2) (fun s hs again ha => ?_) k ([], 0) ⟨Nat.zero_le _, Nat.le_refl _, rfl⟩ (by omega)
  · exact this
  · obtain ⟨out, i⟩ := s
    simp only at hs ha
    obtain ⟨s1, s2, s3⟩ := hs
    unfold gatepathref41_Squeeze.b0
    rcases Nat.lt_or_ge i L.length with hlt | hge
    · cases i with
      | zero =>
        have e0 : out = [] := by cases out with | nil => rfl | cons a t => simp at s2
        subst e0
        have := ha ([L[0]], 1) ⟨by simp only; omega, by simp, by
          simp only
          cases L with
          | nil => simp at hlt
          | cons a t => simp [sqF, restF]⟩ (by simp only; omega)
        simp (disch := omega) only [decide_true, decide_false, if_true, if_false, Bool.false_eq_true, Bool.true_eq_false, eq_self, Bool.true_or, Bool.false_or, Bool.true_and, Bool.false_and, Bool.or_true, Bool.or_false, Bool.and_true, Bool.and_false, List.getD_cons_zero, List.getD_cons_succ, cell_int, cell_bool, cell_str, cell_sl, cell_agg, i_int, b_bool, s_str, nb_sl, els_sl, nb_ov, els_ov, cs_pv, cs_agg, Int.toNat_natCast, toNat_sub1, toNat_add1, List.length_map, getD_map, ct, cf, beqd, bned, cp, cn, cnp, cnn, if_pos, if_neg, wrap64, Option.bind_some, Bool.not_true, Bool.not_false, List.isEmpty_nil, List.nil_append, List.length_nil, List.length_cons, Nat.zero_add, Int.natCast_zero, List.map_nil]
        simpa using this
      | succ j =>
        have e1 : restF L (j + 1) = tlF L[j] (L.drop (j + 1)) := by simp [restF, show j < L.length by omega]
        have e2 : restF L (j + 1 + 1) = tlF L[j + 1] (L.drop (j + 1 + 1)) := by simp [restF, hlt]
        rw [e1, List.drop_eq_getElem_cons hlt, tlF] at s3
        by_cases h2 : L[j + 1] = L[j]
        · rw [if_pos h2, ← h2, ← e2] at s3
          have := ha (out, j + 1 + 1) ⟨by simp only; omega, by simp only; omega, s3⟩ (by simp only; omega)
          simp (disch := omega) only [decide_true, decide_false, if_true, if_false, Bool.false_eq_true, Bool.true_eq_false, eq_self, Bool.true_or, Bool.false_or, Bool.true_and, Bool.false_and, Bool.or_true, Bool.or_false, Bool.and_true, Bool.and_false, List.getD_cons_zero, List.getD_cons_succ, cell_int, cell_bool, cell_str, cell_sl, cell_agg, i_int, b_bool, s_str, nb_sl, els_sl, nb_ov, els_ov, cs_pv, cs_agg, Int.toNat_natCast, toNat_sub1, toNat_add1, List.length_map, getD_map, ct, cf, beqd, bned, cp, cn, cnp, cnn, if_pos, if_neg, wrap64, Option.bind_some, Bool.not_true, Bool.not_false, List.isEmpty_nil, List.nil_append, List.length_nil, List.length_cons, Nat.zero_add, Int.natCast_add, Int.natCast_one, Int.add_sub_cancel, h2, ne_eq, not_true_eq_false] at this ⊢
          exact this
        · rw [if_neg h2, ← e2] at s3
          have := ha (out ++ [L[j + 1]], j + 1 + 1) ⟨by simp only; omega, by simp; omega, by rw [s3]; simp⟩ (by simp only; omega)
          simp (disch := omega) only [decide_true, decide_false, if_true, if_false, Bool.false_eq_true, Bool.true_eq_false, eq_self, Bool.true_or, Bool.false_or, Bool.true_and, Bool.false_and, Bool.or_true, Bool.or_false, Bool.and_true, Bool.and_false, List.getD_cons_zero, List.getD_cons_succ, cell_int, cell_bool, cell_str, cell_sl, cell_agg, i_int, b_bool, s_str, nb_sl, els_sl, nb_ov, els_ov, cs_pv, cs_agg, Int.toNat_natCast, toNat_sub1, toNat_add1, List.length_map, getD_map, ct, cf, beqd, bned, cp, cn, cnp, cnn, if_pos, if_neg, wrap64, Option.bind_some, Bool.not_true, Bool.not_false, List.isEmpty_nil, List.nil_append, List.length_nil, List.length_cons, Nat.zero_add, Int.natCast_add, Int.natCast_one, Int.add_sub_cancel, ne_eq, List.map_append, List.map_cons, List.map_nil] at this ⊢
          exact this
    · have e0 : i = L.length := by omega
      subst e0
      have e1 : restF L L.length = [] := by
        cases L with
        | nil => rfl
        | cons a t => simp [restF, tlF]
      rw [e1, List.append_nil] at s3
      simp (disch := omega) only [decide_true, decide_false, if_true, if_false, Bool.false_eq_true, Bool.true_eq_false, eq_self, Bool.true_or, Bool.false_or, Bool.true_and, Bool.false_and, Bool.or_true, Bool.or_false, Bool.and_true, Bool.and_false, List.getD_cons_zero, List.getD_cons_succ, cell_int, cell_bool, cell_str, cell_sl, cell_agg, i_int, b_bool, s_str, nb_sl, els_sl, nb_ov, els_ov, cs_pv, cs_agg, Int.toNat_natCast, toNat_sub1, toNat_add1, List.length_map, getD_map, ct, cf, beqd, bned, cp, cn, cnp, cnn, if_pos, if_neg, wrap64, Option.bind_some, Bool.not_true, Bool.not_false, List.isEmpty_nil, List.nil_append, List.length_nil, List.length_cons, Nat.zero_add, s3]
      cases L <;> simp

end Go.Proofs.Ytklbnnkdkkcgoaa.Own
