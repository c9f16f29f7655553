import Derived.Test.YtekkbhmlocageaaR
import Derived.Test.YtekkbhmlocageaaSortP
namespace Go.Proofs.Ytekkbhmlocageaa.Own
open Go Go.Proofs.Ytekkbhmlocageaa.GD
set_option linter.unusedVariables false
set_option linter.unusedSimpArgs false

theorem swapRange_ok {N : Nat} (hN : N < 1000000) (n1 nc : Bool) (lc : List D) (a m n : Nat) (h : a + n ≤ m) (hm : m + n ≤ N) (f : Nat → Int) : Cl ty tab 76 [.ov 3 n1 (mk N f), .int .i64 a, .int .i64 m, .int .i64 n, .fn 34 [.rp [.sl 39 nc lc] 0]] = some [.ov 3 n1 (mk N (swp a m n f))] := by
  refine s_slices_swapRangeCmpFunc (N + 2) n1 _ _ _ _ nc lc ?_
  unfold slices_swapRangeCmpFunc
  have := iter_ix (F := slices_swapRangeCmpFunc.b0 (Cl ty tab) (N + 2) (mk N f) a m n) n (fun i => [.int .i64 i, .ov 3 n1 (mk N (swp a m i f))]) (fun _ => some [.ov 3 n1 (mk N (swp a m n f))]) (fun i hi again ha => ?_) (fun again => ?_) (N + 2) (by omega) 0 (by omega)
  · simpa [swp_zero] using this
  · unfold slices_swapRangeCmpFunc.b0
    simp (disch := omega) only [decide_true, decide_false, if_true, if_false, Bool.false_eq_true, Bool.true_eq_false, eq_self, Bool.true_or, Bool.false_or, Bool.true_and, Bool.false_and, Bool.or_true, Bool.or_false, Bool.and_true, Bool.and_false, List.getD_cons_zero, List.getD_cons_succ, cell_int, cell_bool, cell_str, cell_sl, cell_agg, i_int, b_bool, s_str, nb_sl, els_sl, nb_ov, els_ov, cs_pv, cs_agg, Int.toNat_natCast, toNat_sub1, toNat_add1, List.length_map, getD_map, ct, cf, beqd, bned, cp, cn, cnp, cnn, if_pos, if_neg, wrap64, Option.bind_some, Bool.not_true, Bool.not_false, List.isEmpty_nil, List.nil_append, List.length_nil, List.length_cons, Nat.zero_add, mk_length, toNat_add, mk_get, mk_swap, swp_succ]
    exact ha
  · unfold slices_swapRangeCmpFunc.b0
    simp (disch := omega) only [decide_true, decide_false, if_true, if_false, Bool.false_eq_true, Bool.true_eq_false, eq_self, Bool.true_or, Bool.false_or, Bool.true_and, Bool.false_and, Bool.or_true, Bool.or_false, Bool.and_true, Bool.and_false, List.getD_cons_zero, List.getD_cons_succ, cell_int, cell_bool, cell_str, cell_sl, cell_agg, i_int, b_bool, s_str, nb_sl, els_sl, nb_ov, els_ov, cs_pv, cs_agg, Int.toNat_natCast, toNat_sub1, toNat_add1, List.length_map, getD_map, ct, cf, beqd, bned, cp, cn, cnp, cnn, if_pos, if_neg, wrap64, Option.bind_some, Bool.not_true, Bool.not_false, List.isEmpty_nil, List.nil_append, List.length_nil, List.length_cons, Nat.zero_add]

theorem rotate_ok {N : Nat} (hN : N < 1000000) (n1 nc : Bool) (lc : List D) (a m b : Nat) (h1 : a < m) (h2 : m < b) (hb : b ≤ N) (f : Nat → Int) : Cl ty tab 74 [.ov 3 n1 (mk N f), .int .i64 a, .int .i64 m, .int .i64 b, .fn 34 [.rp [.sl 39 nc lc] 0]] = some [.ov 3 n1 (mk N (rot a m b f))] := by
  refine s_slices_rotateCmpFunc (N + 2) n1 _ _ _ _ nc lc ?_
  unfold slices_rotateCmpFunc
  have := iter_wf (F := slices_rotateCmpFunc.b0 (Cl ty tab) (N + 2) m nc lc) (fun s : Nat × Nat × (Nat → Int) => [.int .i64 s.1, .int .i64 s.2.1, .ov 3 n1 (mk N s.2.2)]) (fun _ => some [.ov 3 n1 (mk N (rot a m b f))]) (fun s => s.1 + s.2.1)
    (fun s => 1 ≤ s.1 ∧ s.1 ≤ m ∧ 1 ≤ s.2.1 ∧ m + s.2.1 ≤ N ∧ rot (m - s.1) m (m + s.2.1) s.2.2 = rot a m b f) (fun s hs again ih => ?_) (N + 2) (m - a, b - m, f) (by
      refine ⟨by dsimp only; omega, by dsimp only; omega, by dsimp only; omega, by dsimp only; omega, ?_⟩
      dsimp only
      rw [show m - (m - a) = a by omega, show m + (b - m) = b by omega]) (by dsimp only; omega)
  · dsimp only at this
    rw [wrap64 (by omega) (by omega), wrap64 (by omega) (by omega), show (m : Int) - a = ((m - a : Nat) : Int) by omega, show (b : Int) - m = ((b - m : Nat) : Int) by omega]
    exact this
  · obtain ⟨i, j, g⟩ := s
    dsimp only at hs ih ⊢
    obtain ⟨p1, p2, p3, p4, p5⟩ := hs
    unfold slices_rotateCmpFunc.b0
    rcases Nat.lt_trichotomy j i with c | c | c
    · have e := swapRange_ok hN n1 nc lc (m - i) m j (by omega) (by omega) g
      have ih' := ih (i - j, j, swp (m - i) m j g) ⟨by dsimp only; omega, by dsimp only; omega, p3, p4, by dsimp only; rw [← rot_swpL g c p2]; exact p5⟩ (by dsimp only; omega)
      rw [show ((m - i : Nat) : Int) = (m : Int) - i by omega] at e
      dsimp only at ih'
      rw [show ((i - j : Nat) : Int) = (i : Int) - j by omega] at ih'
      simp (disch := omega) only [decide_true, decide_false, if_true, if_false, Bool.false_eq_true, Bool.true_eq_false, eq_self, Bool.true_or, Bool.false_or, Bool.true_and, Bool.false_and, Bool.or_true, Bool.or_false, Bool.and_true, Bool.and_false, List.getD_cons_zero, List.getD_cons_succ, cell_int, cell_bool, cell_str, cell_sl, cell_agg, i_int, b_bool, s_str, nb_sl, els_sl, nb_ov, els_ov, cs_pv, cs_agg, Int.toNat_natCast, toNat_sub1, toNat_add1, List.length_map, getD_map, ct, cf, beqd, bned, cp, cn, cnp, cnn, if_pos, if_neg, wrap64, Option.bind_some, Bool.not_true, Bool.not_false, List.isEmpty_nil, List.nil_append, List.length_nil, List.length_cons, Nat.zero_add, e]
      exact ih'
    · subst c
      have e := swapRange_ok hN n1 nc lc (m - j) m j (by omega) (by omega) g
      rw [show ((m - j : Nat) : Int) = (m : Int) - j by omega] at e
      simp (disch := omega) only [decide_true, decide_false, if_true, if_false, Bool.false_eq_true, Bool.true_eq_false, eq_self, Bool.true_or, Bool.false_or, Bool.true_and, Bool.false_and, Bool.or_true, Bool.or_false, Bool.and_true, Bool.and_false, List.getD_cons_zero, List.getD_cons_succ, cell_int, cell_bool, cell_str, cell_sl, cell_agg, i_int, b_bool, s_str, nb_sl, els_sl, nb_ov, els_ov, cs_pv, cs_agg, Int.toNat_natCast, toNat_sub1, toNat_add1, List.length_map, getD_map, ct, cf, beqd, bned, cp, cn, cnp, cnn, if_pos, if_neg, wrap64, Option.bind_some, Bool.not_true, Bool.not_false, List.isEmpty_nil, List.nil_append, List.length_nil, List.length_cons, Nat.zero_add, e]
      rw [← rot_swpE g p2, p5]
    · have e := swapRange_ok hN n1 nc lc (m - i) (m + j - i) i (by omega) (by omega) g
      have ih' := ih (i, j - i, swp (m - i) (m + j - i) i g) ⟨p1, p2, by dsimp only; omega, by dsimp only; omega, by dsimp only; rw [← rot_swpR g c p2]; exact p5⟩ (by dsimp only; omega)
      rw [show ((m - i : Nat) : Int) = (m : Int) - i by omega, show ((m + j - i : Nat) : Int) = (m : Int) + j - i by omega] at e
      dsimp only at ih'
      rw [show ((j - i : Nat) : Int) = (j : Int) - i by omega] at ih'
      simp (disch := omega) only [decide_true, decide_false, if_true, if_false, Bool.false_eq_true, Bool.true_eq_false, eq_self, Bool.true_or, Bool.false_or, Bool.true_and, Bool.false_and, Bool.or_true, Bool.or_false, Bool.and_true, Bool.and_false, List.getD_cons_zero, List.getD_cons_succ, cell_int, cell_bool, cell_str, cell_sl, cell_agg, i_int, b_bool, s_str, nb_sl, els_sl, nb_ov, els_ov, cs_pv, cs_agg, Int.toNat_natCast, toNat_sub1, toNat_add1, List.length_map, getD_map, ct, cf, beqd, bned, cp, cn, cnp, cnn, if_pos, if_neg, wrap64, Option.bind_some, Bool.not_true, Bool.not_false, List.isEmpty_nil, List.nil_append, List.length_nil, List.length_cons, Nat.zero_add, e]
      exact ih'

section
variable {N : Nat} (hN : N < 1000000) (n1 nc : Bool) (lc : List D) {c : Int → Int → Int} (hc : Cmp c) {V : Int → Prop}
  (less : ∀ i k, V i → V k → Cl ty tab 34 [.int .i64 i, .int .i64 k, .rp [.sl 39 nc lc] 0] = some [.int .i64 (c i k)])
include hN hc less

theorem insert_ok (a b : Nat) (hab : a ≤ b) (hb : b ≤ N) (f : Nat → Int) (hf : ∀ x, x < N → V (f x)) (hi : ∀ x y, a ≤ x → x < y → y < b → f x < f y) :
    ∃ g, Cl ty tab 65 [.ov 3 n1 (mk N f), .int .i64 a, .int .i64 b, .fn 34 [.rp [.sl 39 nc lc] 0]] = some [.ov 3 n1 (mk N g)] ∧ Seg a b f g ∧ Srt c g a b := by
  rcases Nat.lt_or_eq_of_le hab with hlt | heq
  case inr =>
    subst heq
    refine ⟨f, ?_, Seg.refl _ _ _, fun x y h1 h2 h3 => by omega⟩
    refine s_slices_insertionSortCmpFunc 1 n1 _ _ _ nc lc ?_
    unfold slices_insertionSortCmpFunc iter slices_insertionSortCmpFunc.b0
    simp (disch := omega) only [decide_true, decide_false, if_true, if_false, Bool.false_eq_true, Bool.true_eq_false, eq_self, Bool.true_or, Bool.false_or, Bool.true_and, Bool.false_and, Bool.or_true, Bool.or_false, Bool.and_true, Bool.and_false, List.getD_cons_zero, List.getD_cons_succ, cell_int, cell_bool, cell_str, cell_sl, cell_agg, i_int, b_bool, s_str, nb_sl, els_sl, nb_ov, els_ov, cs_pv, cs_agg, Int.toNat_natCast, toNat_sub1, toNat_add1, List.length_map, getD_map, ct, cf, beqd, bned, cp, cn, cnp, cnn, if_pos, if_neg, wrap64, Option.bind_some, Bool.not_true, Bool.not_false, List.isEmpty_nil, List.nil_append, List.length_nil, List.length_cons, Nat.zero_add]
  suffices ∃ r, slices_insertionSortCmpFunc (Cl ty tab) (N + 2) n1 (mk N f) a b nc lc = some r ∧ ∃ g, r = [.ov 3 n1 (mk N g)] ∧ Seg a b f g ∧ Srt c g a b by
    obtain ⟨r, e, g, rfl, h⟩ := this
    exact ⟨g, s_slices_insertionSortCmpFunc (N + 2) n1 _ _ _ nc lc e, h⟩
  unfold slices_insertionSortCmpFunc
  have := iter_q (F := slices_insertionSortCmpFunc.b0 (Cl ty tab) (N + 2) (mk N f) a b nc lc) (fun s : Nat × (Nat → Int) => [.int .i64 s.1, .ov 3 n1 (mk N s.2)]) (fun r => ∃ g, r = [.ov 3 n1 (mk N g)] ∧ Seg a b f g ∧ Srt c g a b) (fun s => b - s.1)
    (fun s => a + 1 ≤ s.1 ∧ s.1 ≤ b ∧ Seg a s.1 f s.2 ∧ Srt c s.2 a s.1) (fun s hs again ih => ?_) (N + 2) (a + 1, f) ⟨Nat.le_refl _, by dsimp only; omega, Seg.refl _ _ _, fun x y h1 h2 h3 => by dsimp only at h3; omega⟩ (by dsimp only; omega)
  · rw [wrap64 (by omega) (by omega)]; exact this
  obtain ⟨i, G⟩ := s
  dsimp only at hs ih ⊢
  obtain ⟨p1, p2, p3, p4⟩ := hs
  unfold slices_insertionSortCmpFunc.b0
  rcases Nat.lt_or_eq_of_le p2 with q | q
  case inr => subst q; simp (disch := omega) only [decide_true, decide_false, if_true, if_false, Bool.false_eq_true, Bool.true_eq_false, eq_self, Bool.true_or, Bool.false_or, Bool.true_and, Bool.false_and, Bool.or_true, Bool.or_false, Bool.and_true, Bool.and_false, List.getD_cons_zero, List.getD_cons_succ, cell_int, cell_bool, cell_str, cell_sl, cell_agg, i_int, b_bool, s_str, nb_sl, els_sl, nb_ov, els_ov, cs_pv, cs_agg, Int.toNat_natCast, toNat_sub1, toNat_add1, List.length_map, getD_map, ct, cf, beqd, bned, cp, cn, cnp, cnn, if_pos, if_neg, wrap64, Option.bind_some, Bool.not_true, Bool.not_false, List.isEmpty_nil, List.nil_append, List.length_nil, List.length_cons, Nat.zero_add]; exact ⟨_, rfl, G, rfl, p3, p4⟩
  have GV : ∀ x, x < N → V (G x) := fun x hx => p3.all (V := V) (by omega) hf x hx
  -- elements in front are of smaller places
  have gl : ∀ x, a ≤ x → x < i → G x < G i := fun x h1 h2 => by
    obtain ⟨y, y1, y2, e⟩ := p3.ins h1 h2
    rw [e, p3.out (.inr (Nat.le_refl _))]
    exact hi y i y1 y2 q
  have inner := iter_q (F := slices_insertionSortCmpFunc.b1 (Cl ty tab) (N + 2) (mk N f) a nc lc again [.int .i64 i, .ov 3 n1 (mk N G)]) (fun j : Nat => [.int .i64 j, .ov 3 n1 (mk N (rot j i (i + 1) G))]) (fun r => ∃ g, r = [.ov 3 n1 (mk N g)] ∧ Seg a b f g ∧ Srt c g a b) (fun j => j)
    (fun j => a ≤ j ∧ j ≤ i ∧ ∀ h, j ≤ h → h < i → Bef c (G i) (G h)) (fun j hj again2 ih2 => ?_) (N + 2) i ⟨by omega, Nat.le_refl _, fun h h1 h2 => by omega⟩ (by omega)
  · rw [rot_left (Nat.le_refl _) (Nat.le_refl _)] at inner
    simp (disch := omega) only [decide_true, decide_false, if_true, if_false, Bool.false_eq_true, Bool.true_eq_false, eq_self, Bool.true_or, Bool.false_or, Bool.true_and, Bool.false_and, Bool.or_true, Bool.or_false, Bool.and_true, Bool.and_false, List.getD_cons_zero, List.getD_cons_succ, cell_int, cell_bool, cell_str, cell_sl, cell_agg, i_int, b_bool, s_str, nb_sl, els_sl, nb_ov, els_ov, cs_pv, cs_agg, Int.toNat_natCast, toNat_sub1, toNat_add1, List.length_map, getD_map, ct, cf, beqd, bned, cp, cn, cnp, cnn, if_pos, if_neg, wrap64, Option.bind_some, Bool.not_true, Bool.not_false, List.isEmpty_nil, List.nil_append, List.length_nil, List.length_cons, Nat.zero_add]
    exact inner
  obtain ⟨j1, j2, j3⟩ := hj
  have stop : (∀ x, a ≤ x → x < j → Bef c (G x) (G i)) → ∃ r, again [.int .i64 ((i : Int) + 1), .ov 3 n1 (mk N (rot j i (i + 1) G))] = some r ∧ ∃ g, r = [.ov 3 n1 (mk N g)] ∧ Seg a b f g ∧ Srt c g a b := fun hA => by
    have := ih (i + 1, rot j i (i + 1) G) ⟨by dsimp only; omega, by dsimp only; omega, ?_, ?_⟩ (by dsimp only; omega)
    · exact this
    · exact (p3.mono (Nat.le_refl _) (by dsimp only; omega)).trans ((Seg.rot G (by omega) (by omega)).mono (by omega) (Nat.le_refl _))
    · refine srt_rot (b := i + 1) (by omega) (by omega) (by omega) (Nat.le_refl _) p4 (fun x y h1 h2 h3 => by omega) (fun x y h1 h2 h3 h4 => ?_) (fun x y h1 h2 h3 h4 => ?_) (fun x y h1 h2 h3 h4 => by omega) (fun x y h1 h2 h3 h4 => by omega)
      · have : y = i := by omega
        subst this; exact hA x h1 h2
      · have : x = i := by omega
        subst this; exact j3 y h3 h4
  unfold slices_insertionSortCmpFunc.b1
  rcases Nat.lt_or_eq_of_le j1 with c1 | c1
  case inr =>
    subst c1
    simp (disch := omega) only [decide_true, decide_false, if_true, if_false, Bool.false_eq_true, Bool.true_eq_false, eq_self, Bool.true_or, Bool.false_or, Bool.true_and, Bool.false_and, Bool.or_true, Bool.or_false, Bool.and_true, Bool.and_false, List.getD_cons_zero, List.getD_cons_succ, cell_int, cell_bool, cell_str, cell_sl, cell_agg, i_int, b_bool, s_str, nb_sl, els_sl, nb_ov, els_ov, cs_pv, cs_agg, Int.toNat_natCast, toNat_sub1, toNat_add1, List.length_map, getD_map, ct, cf, beqd, bned, cp, cn, cnp, cnn, if_pos, if_neg, wrap64, Option.bind_some, Bool.not_true, Bool.not_false, List.isEmpty_nil, List.nil_append, List.length_nil, List.length_cons, Nat.zero_add]
    exact stop fun x h1 h2 => by omega
  obtain ⟨j, rfl⟩ : ∃ j', j = j' + 1 := ⟨j - 1, by omega⟩
  have v1 : rot (j + 1) i (i + 1) G (j + 1) = G i := by rw [rot2 G (by omega) (by omega) (by omega) (by omega)]; congr 1; omega
  have v2 : rot (j + 1) i (i + 1) G j = G j := rot1 G (by omega)
  have l := less (G i) (G j) (GV i (by omega)) (GV j (by omega))
  have ej : (((j + 1 : Nat) : Int) - 1).toNat = j := by omega
  by_cases lt : c (G i) (G j) < 0
  · have sw := rot_down G (k := j) (m := i) (by omega)
    have ms := mk_swap N (j + 1) j (rot (j + 1) i (i + 1) G)
    rw [v1, v2] at ms
    rw [sw] at ms
    have := ih2 j ⟨by omega, by omega, fun h h1 h2 => ?_⟩ (by omega)
    · simp (disch := omega) only [decide_true, decide_false, if_true, if_false, Bool.false_eq_true, Bool.true_eq_false, eq_self, Bool.true_or, Bool.false_or, Bool.true_and, Bool.false_and, Bool.or_true, Bool.or_false, Bool.and_true, Bool.and_false, List.getD_cons_zero, List.getD_cons_succ, cell_int, cell_bool, cell_str, cell_sl, cell_agg, i_int, b_bool, s_str, nb_sl, els_sl, nb_ov, els_ov, cs_pv, cs_agg, Int.toNat_natCast, toNat_sub1, toNat_add1, List.length_map, getD_map, ct, cf, beqd, bned, cp, cn, cnp, cnn, if_pos, if_neg, wrap64, Option.bind_some, Bool.not_true, Bool.not_false, List.isEmpty_nil, List.nil_append, List.length_nil, List.length_cons, Nat.zero_add, mk_length, ej, mk_get, v1, v2, l, lt, ms]
      rw [show ((j + 1 : Nat) : Int) - 1 = (j : Int) by omega]
      exact this
    · rcases Nat.lt_or_eq_of_le h1 with g | g
      · exact j3 h (by omega) h2
      · subst g; exact .inl lt
  · simp (disch := omega) only [decide_true, decide_false, if_true, if_false, Bool.false_eq_true, Bool.true_eq_false, eq_self, Bool.true_or, Bool.false_or, Bool.true_and, Bool.false_and, Bool.or_true, Bool.or_false, Bool.and_true, Bool.and_false, List.getD_cons_zero, List.getD_cons_succ, cell_int, cell_bool, cell_str, cell_sl, cell_agg, i_int, b_bool, s_str, nb_sl, els_sl, nb_ov, els_ov, cs_pv, cs_agg, Int.toNat_natCast, toNat_sub1, toNat_add1, List.length_map, getD_map, ct, cf, beqd, bned, cp, cn, cnp, cnn, if_pos, if_neg, wrap64, Option.bind_some, Bool.not_true, Bool.not_false, List.isEmpty_nil, List.nil_append, List.length_nil, List.length_cons, Nat.zero_add, mk_length, ej, mk_get, v1, v2, l, lt]
    exact stop fun x h1 h2 => Bef.lel hc (p4.le h1 (show x ≤ j by omega) (by omega)) (Bef.of_not hc lt (gl j (by omega) (by omega)))

theorem one_left (n : Nat) (a m b : Nat) (h1 : m = a + 1) (h2 : m < b) (hb : b ≤ N) (f : Nat → Int) (hf : ∀ x, x < N → V (f x)) (P : MPre c f a m b) :
    ∃ r, iter (N + 2) (slices_symMergeCmpFunc.b0 (Cl ty tab) (N + 2) (mk N f) a nc lc) [.int .i64 m, .int .i64 b, .ov 3 n1 (mk N f)] = some r ∧ ∃ g, r = [.ov 3 n1 (mk N g)] ∧ Seg a b f g ∧ Srt c g a b := by
  have := iter_q (F := slices_symMergeCmpFunc.b0 (Cl ty tab) (N + 2) (mk N f) a nc lc) (fun s : Nat × Nat => [.int .i64 s.1, .int .i64 s.2, .ov 3 n1 (mk N f)]) (fun r => ∃ g, r = [.ov 3 n1 (mk N g)] ∧ Seg a b f g ∧ Srt c g a b) (fun s => s.2 - s.1)
    (fun s => m ≤ s.1 ∧ s.1 ≤ s.2 ∧ s.2 ≤ b ∧ (∀ h, m ≤ h → h < s.1 → Bef c (f h) (f a)) ∧ ∀ h, s.2 ≤ h → h < b → Bef c (f a) (f h)) (fun s hs again ih => ?_) (N + 2) (m, b) ⟨Nat.le_refl _, by dsimp only; omega, Nat.le_refl _, fun h h1 h2 => by dsimp only at h2; omega, fun h h1 h2 => by dsimp only at h1; omega⟩ (by dsimp only; omega)
  · exact this
  obtain ⟨i, j⟩ := s
  dsimp only at hs ih ⊢
  obtain ⟨p1, p2, p3, p4, p5⟩ := hs
  unfold slices_symMergeCmpFunc.b0
  rcases Nat.lt_or_eq_of_le p2 with q | q
  · have hh := half1 (i := i) (j := j) (by omega)
    obtain ⟨h, eh⟩ : ∃ h, h = (i + j) / 2 := ⟨_, rfl⟩
    rw [← eh] at hh
    have l := less (f h) (f a) (hf h (by omega)) (hf a (by omega))
    by_cases lt : c (f h) (f a) < 0
    · have ih' := ih (h + 1, j) ⟨by dsimp only; omega, by dsimp only; omega, p3, fun x h3 h4 => ?_, p5⟩ (by dsimp only; omega)
      · simp (disch := omega) only [decide_true, decide_false, if_true, if_false, Bool.false_eq_true, Bool.true_eq_false, eq_self, Bool.true_or, Bool.false_or, Bool.true_and, Bool.false_and, Bool.or_true, Bool.or_false, Bool.and_true, Bool.and_false, List.getD_cons_zero, List.getD_cons_succ, cell_int, cell_bool, cell_str, cell_sl, cell_agg, i_int, b_bool, s_str, nb_sl, els_sl, nb_ov, els_ov, cs_pv, cs_agg, Int.toNat_natCast, toNat_sub1, toNat_add1, List.length_map, getD_map, ct, cf, beqd, bned, cp, cn, cnp, cnn, if_pos, if_neg, wrap64, Option.bind_some, Bool.not_true, Bool.not_false, List.isEmpty_nil, List.nil_append, List.length_nil, List.length_cons, Nat.zero_add, hh, mk_length, mk_get, l, lt]
        exact ih'
      · dsimp only at h4
        rcases Nat.lt_or_eq_of_le (show x ≤ h by omega) with g | g
        · exact Bef.trans hc (P.r x h h3 g (by omega)) (.inl lt)
        · subst g; exact .inl lt
    · have ih' := ih (i, h) ⟨p1, by dsimp only; omega, by dsimp only; omega, p4, fun x h3 h4 => ?_⟩ (by dsimp only; omega)
      · simp (disch := omega) only [decide_true, decide_false, if_true, if_false, Bool.false_eq_true, Bool.true_eq_false, eq_self, Bool.true_or, Bool.false_or, Bool.true_and, Bool.false_and, Bool.or_true, Bool.or_false, Bool.and_true, Bool.and_false, List.getD_cons_zero, List.getD_cons_succ, cell_int, cell_bool, cell_str, cell_sl, cell_agg, i_int, b_bool, s_str, nb_sl, els_sl, nb_ov, els_ov, cs_pv, cs_agg, Int.toNat_natCast, toNat_sub1, toNat_add1, List.length_map, getD_map, ct, cf, beqd, bned, cp, cn, cnp, cnn, if_pos, if_neg, wrap64, Option.bind_some, Bool.not_true, Bool.not_false, List.isEmpty_nil, List.nil_append, List.length_nil, List.length_cons, Nat.zero_add, hh, mk_length, mk_get, l, lt]
        exact ih'
      · exact Bef.ler hc (Bef.of_not hc lt (P.x a h (Nat.le_refl _) (by omega) (by omega) (by omega))) (P.r.le (by omega) h3 h4)
  · subst q
    subst h1
    have inner := iter_wf (F := slices_symMergeCmpFunc.b1 (Cl ty tab) (N + 2) (mk N f) [.int .i64 i, .int .i64 i, .ov 3 n1 (mk N f)]) (fun k : Nat => [.int .i64 k, .ov 3 n1 (mk N (rot a (a + 1) (k + 1) f))]) (fun _ => some [.ov 3 n1 (mk N (rot a (a + 1) i f))]) (fun k => i - k) (fun k => a ≤ k ∧ k + 1 ≤ i) (fun k hk again2 ih2 => ?_) (N + 2) a ⟨Nat.le_refl _, by omega⟩ (by omega)
    · rw [rot_right (Nat.le_refl _) (Nat.le_refl _)] at inner
      simp (disch := omega) only [decide_true, decide_false, if_true, if_false, Bool.false_eq_true, Bool.true_eq_false, eq_self, Bool.true_or, Bool.false_or, Bool.true_and, Bool.false_and, Bool.or_true, Bool.or_false, Bool.and_true, Bool.and_false, List.getD_cons_zero, List.getD_cons_succ, cell_int, cell_bool, cell_str, cell_sl, cell_agg, i_int, b_bool, s_str, nb_sl, els_sl, nb_ov, els_ov, cs_pv, cs_agg, Int.toNat_natCast, toNat_sub1, toNat_add1, List.length_map, getD_map, ct, cf, beqd, bned, cp, cn, cnp, cnn, if_pos, if_neg, wrap64, Option.bind_some, Bool.not_true, Bool.not_false, List.isEmpty_nil, List.nil_append, List.length_nil, List.length_cons, Nat.zero_add]
      refine ⟨_, inner, _, rfl, (Seg.rot f (by omega) p1).mono (Nat.le_refl _) (by omega), srt_rot (Nat.le_refl _) (by omega) p1 (by omega) P.l P.r (fun x y h1 h2 h3 => by omega) (fun x y h1 h2 h3 h4 => ?_) (fun x y h1 h2 h3 h4 => ?_) (fun x y h1 h2 h3 h4 => by omega)⟩
      · rw [show y = a by omega]; exact p4 x h1 h2
      · rw [show x = a by omega]; exact p5 y h3 h4
    · unfold slices_symMergeCmpFunc.b1
      obtain ⟨k1, k2⟩ := hk
      rcases Nat.lt_or_eq_of_le k2 with g | g
      · have ih3 := ih2 (k + 1) ⟨by omega, by omega⟩ (by omega)
        simp (disch := omega) only [decide_true, decide_false, if_true, if_false, Bool.false_eq_true, Bool.true_eq_false, eq_self, Bool.true_or, Bool.false_or, Bool.true_and, Bool.false_and, Bool.or_true, Bool.or_false, Bool.and_true, Bool.and_false, List.getD_cons_zero, List.getD_cons_succ, cell_int, cell_bool, cell_str, cell_sl, cell_agg, i_int, b_bool, s_str, nb_sl, els_sl, nb_ov, els_ov, cs_pv, cs_agg, Int.toNat_natCast, toNat_sub1, toNat_add1, List.length_map, getD_map, ct, cf, beqd, bned, cp, cn, cnp, cnn, if_pos, if_neg, wrap64, Option.bind_some, Bool.not_true, Bool.not_false, List.isEmpty_nil, List.nil_append, List.length_nil, List.length_cons, Nat.zero_add, mk_length, mk_get, toNat_add1, mk_swap, rot_up]
        exact ih3
      · subst g; simp (disch := omega) only [decide_true, decide_false, if_true, if_false, Bool.false_eq_true, Bool.true_eq_false, eq_self, Bool.true_or, Bool.false_or, Bool.true_and, Bool.false_and, Bool.or_true, Bool.or_false, Bool.and_true, Bool.and_false, List.getD_cons_zero, List.getD_cons_succ, cell_int, cell_bool, cell_str, cell_sl, cell_agg, i_int, b_bool, s_str, nb_sl, els_sl, nb_ov, els_ov, cs_pv, cs_agg, Int.toNat_natCast, toNat_sub1, toNat_add1, List.length_map, getD_map, ct, cf, beqd, bned, cp, cn, cnp, cnn, if_pos, if_neg, wrap64, Option.bind_some, Bool.not_true, Bool.not_false, List.isEmpty_nil, List.nil_append, List.length_nil, List.length_cons, Nat.zero_add]

theorem one_right (a m b : Nat) (h1 : b = m + 1) (h2 : a < m) (hb : b ≤ N) (f : Nat → Int) (hf : ∀ x, x < N → V (f x)) (P : MPre c f a m b) :
    ∃ r, iter (N + 2) (slices_symMergeCmpFunc.b2 (Cl ty tab) (N + 2) (mk N f) m nc lc) [.int .i64 a, .int .i64 m, .ov 3 n1 (mk N f)] = some r ∧ ∃ g, r = [.ov 3 n1 (mk N g)] ∧ Seg a b f g ∧ Srt c g a b := by
  have := iter_q (F := slices_symMergeCmpFunc.b2 (Cl ty tab) (N + 2) (mk N f) m nc lc) (fun s : Nat × Nat => [.int .i64 s.1, .int .i64 s.2, .ov 3 n1 (mk N f)]) (fun r => ∃ g, r = [.ov 3 n1 (mk N g)] ∧ Seg a b f g ∧ Srt c g a b) (fun s => s.2 - s.1)
    (fun s => a ≤ s.1 ∧ s.1 ≤ s.2 ∧ s.2 ≤ m ∧ (∀ h, a ≤ h → h < s.1 → Bef c (f h) (f m)) ∧ ∀ h, s.2 ≤ h → h < m → Bef c (f m) (f h)) (fun s hs again ih => ?_) (N + 2) (a, m) ⟨Nat.le_refl _, by dsimp only; omega, Nat.le_refl _, fun h h1 h2 => by dsimp only at h2; omega, fun h h1 h2 => by dsimp only at h1; omega⟩ (by dsimp only; omega)
  · exact this
  obtain ⟨i, j⟩ := s
  dsimp only at hs ih ⊢
  obtain ⟨p1, p2, p3, p4, p5⟩ := hs
  unfold slices_symMergeCmpFunc.b2
  rcases Nat.lt_or_eq_of_le p2 with q | q
  · have hh := half1 (i := i) (j := j) (by omega)
    obtain ⟨h, eh⟩ : ∃ h, h = (i + j) / 2 := ⟨_, rfl⟩
    rw [← eh] at hh
    have l := less (f m) (f h) (hf m (by omega)) (hf h (by omega))
    by_cases lt : c (f m) (f h) < 0
    · have ih' := ih (i, h) ⟨p1, by dsimp only; omega, by dsimp only; omega, p4, fun x h3 h4 => ?_⟩ (by dsimp only; omega)
      · simp (disch := omega) only [decide_true, decide_false, if_true, if_false, Bool.false_eq_true, Bool.true_eq_false, eq_self, Bool.true_or, Bool.false_or, Bool.true_and, Bool.false_and, Bool.or_true, Bool.or_false, Bool.and_true, Bool.and_false, List.getD_cons_zero, List.getD_cons_succ, cell_int, cell_bool, cell_str, cell_sl, cell_agg, i_int, b_bool, s_str, nb_sl, els_sl, nb_ov, els_ov, cs_pv, cs_agg, Int.toNat_natCast, toNat_sub1, toNat_add1, List.length_map, getD_map, ct, cf, beqd, bned, cp, cn, cnp, cnn, if_pos, if_neg, wrap64, Option.bind_some, Bool.not_true, Bool.not_false, List.isEmpty_nil, List.nil_append, List.length_nil, List.length_cons, Nat.zero_add, hh, mk_length, mk_get, l, lt]
        exact ih'
      · exact Bef.ler hc (.inl lt) (P.l.le (by omega) h3 h4)
    · have ih' := ih (h + 1, j) ⟨by dsimp only; omega, by dsimp only; omega, p3, fun x h3 h4 => ?_, p5⟩ (by dsimp only; omega)
      · simp (disch := omega) only [decide_true, decide_false, if_true, if_false, Bool.false_eq_true, Bool.true_eq_false, eq_self, Bool.true_or, Bool.false_or, Bool.true_and, Bool.false_and, Bool.or_true, Bool.or_false, Bool.and_true, Bool.and_false, List.getD_cons_zero, List.getD_cons_succ, cell_int, cell_bool, cell_str, cell_sl, cell_agg, i_int, b_bool, s_str, nb_sl, els_sl, nb_ov, els_ov, cs_pv, cs_agg, Int.toNat_natCast, toNat_sub1, toNat_add1, List.length_map, getD_map, ct, cf, beqd, bned, cp, cn, cnp, cnn, if_pos, if_neg, wrap64, Option.bind_some, Bool.not_true, Bool.not_false, List.isEmpty_nil, List.nil_append, List.length_nil, List.length_cons, Nat.zero_add, hh, mk_length, mk_get, l, lt]
        exact ih'
      · dsimp only at h4
        exact Bef.lel hc (P.l.le h3 (show x ≤ h by omega) (by omega)) (Bef.of_not hc lt (P.x h m (by omega) (by omega) (Nat.le_refl _) (by omega)))
  · subst q
    subst h1
    have inner := iter_wf (F := slices_symMergeCmpFunc.b3 (Cl ty tab) (N + 2) (mk N f) [.int .i64 i, .int .i64 i, .ov 3 n1 (mk N f)]) (fun k : Nat => [.int .i64 k, .ov 3 n1 (mk N (rot k m (m + 1) f))]) (fun _ => some [.ov 3 n1 (mk N (rot i m (m + 1) f))]) (fun k => k) (fun k => i ≤ k ∧ k ≤ m) (fun k hk again2 ih2 => ?_) (N + 2) m ⟨p3, Nat.le_refl _⟩ (by omega)
    · rw [rot_left (Nat.le_refl _) (Nat.le_refl _)] at inner
      simp (disch := omega) only [decide_true, decide_false, if_true, if_false, Bool.false_eq_true, Bool.true_eq_false, eq_self, Bool.true_or, Bool.false_or, Bool.true_and, Bool.false_and, Bool.or_true, Bool.or_false, Bool.and_true, Bool.and_false, List.getD_cons_zero, List.getD_cons_succ, cell_int, cell_bool, cell_str, cell_sl, cell_agg, i_int, b_bool, s_str, nb_sl, els_sl, nb_ov, els_ov, cs_pv, cs_agg, Int.toNat_natCast, toNat_sub1, toNat_add1, List.length_map, getD_map, ct, cf, beqd, bned, cp, cn, cnp, cnn, if_pos, if_neg, wrap64, Option.bind_some, Bool.not_true, Bool.not_false, List.isEmpty_nil, List.nil_append, List.length_nil, List.length_cons, Nat.zero_add]
      refine ⟨_, inner, _, rfl, (Seg.rot f p3 (by omega)).mono p1 (by omega), srt_rot p1 p3 (by omega) (Nat.le_refl _) P.l P.r (fun x y h1 h2 h3 h4 => ?_) (fun x y h1 h2 h3 h4 => ?_) (fun x y h1 h2 h3 h4 => by omega) (fun x y h1 h2 h3 h4 => by omega)⟩
      · rw [show y = m by omega]; exact p4 x h1 h2
      · rw [show x = m by omega]; exact p5 y h3 h4
    · unfold slices_symMergeCmpFunc.b3
      obtain ⟨k1, k2⟩ := hk
      rcases Nat.lt_or_eq_of_le k1 with g | g
      · obtain ⟨k, rfl⟩ : ∃ k', k = k' + 1 := ⟨k - 1, by omega⟩
        have ih3 := ih2 k ⟨by omega, by omega⟩ (by omega)
        have ek : (((k + 1 : Nat) : Int) - 1).toNat = k := by omega
        simp (disch := omega) only [decide_true, decide_false, if_true, if_false, Bool.false_eq_true, Bool.true_eq_false, eq_self, Bool.true_or, Bool.false_or, Bool.true_and, Bool.false_and, Bool.or_true, Bool.or_false, Bool.and_true, Bool.and_false, List.getD_cons_zero, List.getD_cons_succ, cell_int, cell_bool, cell_str, cell_sl, cell_agg, i_int, b_bool, s_str, nb_sl, els_sl, nb_ov, els_ov, cs_pv, cs_agg, Int.toNat_natCast, toNat_sub1, toNat_add1, List.length_map, getD_map, ct, cf, beqd, bned, cp, cn, cnp, cnn, if_pos, if_neg, wrap64, Option.bind_some, Bool.not_true, Bool.not_false, List.isEmpty_nil, List.nil_append, List.length_nil, List.length_cons, Nat.zero_add, mk_length, mk_get, ek, mk_swap, rot_down]
        rw [show ((k + 1 : Nat) : Int) - 1 = (k : Int) by omega]
        exact ih3
      · subst g; simp (disch := omega) only [decide_true, decide_false, if_true, if_false, Bool.false_eq_true, Bool.true_eq_false, eq_self, Bool.true_or, Bool.false_or, Bool.true_and, Bool.false_and, Bool.or_true, Bool.or_false, Bool.and_true, Bool.and_false, List.getD_cons_zero, List.getD_cons_succ, cell_int, cell_bool, cell_str, cell_sl, cell_agg, i_int, b_bool, s_str, nb_sl, els_sl, nb_ov, els_ov, cs_pv, cs_agg, Int.toNat_natCast, toNat_sub1, toNat_add1, List.length_map, getD_map, ct, cf, beqd, bned, cp, cn, cnp, cnn, if_pos, if_neg, wrap64, Option.bind_some, Bool.not_true, Bool.not_false, List.isEmpty_nil, List.nil_append, List.length_nil, List.length_cons, Nat.zero_add]

/-- a merge of the parts of a shorter place -/
def MergeOk (N : Nat) (n1 nc : Bool) (lc : List D) (c : Int → Int → Int) (V : Int → Prop) (n : Nat) : Prop :=
  ∀ (a m b : Nat) (f : Nat → Int), b - a < n → a < m → m < b → b ≤ N → (∀ x, x < N → V (f x)) → MPre c f a m b →
    ∃ g, Cl ty tab 66 [.ov 3 n1 (mk N f), .int .i64 a, .int .i64 m, .int .i64 b, .fn 34 [.rp [.sl 39 nc lc] 0]] = some [.ov 3 n1 (mk N g)] ∧ Seg a b f g ∧ Srt c g a b

omit hN hc less in
theorem b4_same : @slices_symMergeCmpFunc.b4 = @slices_symMergeCmpFunc.b4_1 := rfl

set_option maxHeartbeats 2000000 in
theorem mergeLoop (a m b s0 r0 mid : Nat) (h1 : a < m) (h2 : m < b) (hb : b ≤ N) (f : Nat → Int) (hf : ∀ x, x < N → V (f x)) (P : MPre c f a m b) (IH : MergeOk N n1 nc lc c V (b - a))
    (em : mid = (a + b) / 2) (q1 : a ≤ s0) (q2 : s0 ≤ r0) (q3 : r0 ≤ m) (q4 : r0 ≤ mid) (q5 : mid + m ≤ b + s0) (q6 : s0 = a ∨ mid + m = b + s0) (q7 : r0 = m ∨ r0 = mid) (hab : a + 2 ≤ b) :
    ∃ r, iter (N + 2) (slices_symMergeCmpFunc.b4 (Cl ty tab) (N + 2) (mk N f) a m b nc lc) [.int .i64 s0, .int .i64 r0, .ov 3 n1 (mk N f)] = some r ∧ ∃ g, r = [.ov 3 n1 (mk N g)] ∧ Seg a b f g ∧ Srt c g a b := by
  have := iter_q (F := slices_symMergeCmpFunc.b4 (Cl ty tab) (N + 2) (mk N f) a m b nc lc) (fun s : Nat × Nat => [.int .i64 s.1, .int .i64 s.2, .ov 3 n1 (mk N f)]) (fun r => ∃ g, r = [.ov 3 n1 (mk N g)] ∧ Seg a b f g ∧ Srt c g a b) (fun s => s.2 - s.1)
    (fun s => s0 ≤ s.1 ∧ s.1 ≤ s.2 ∧ s.2 ≤ r0 ∧ (∀ x, s0 ≤ x → x < s.1 → Bef c (f x) (f (mid + m - 1 - x))) ∧ ∀ x, s.2 ≤ x → x < r0 → Bef c (f (mid + m - 1 - x)) (f x)) (fun s hs again ih => ?_) (N + 2) (s0, r0) ⟨Nat.le_refl _, q2, Nat.le_refl _, fun h h1 h2 => by dsimp only at h2; omega, fun h h1 h2 => by dsimp only at h1; omega⟩ (by dsimp only; omega)
  · exact this
  obtain ⟨i, j⟩ := s
  dsimp only at hs ih ⊢
  obtain ⟨p1, p2, p3, p4, p5⟩ := hs
  have hmid := half1 (i := a) (j := b) (by omega)
  rw [← em] at hmid
  unfold slices_symMergeCmpFunc.b4
  rcases Nat.lt_or_eq_of_le p2 with q | q
  · have hh := half1 (i := i) (j := j) (by omega)
    obtain ⟨h, eh⟩ : ∃ h, h = (i + j) / 2 := ⟨_, rfl⟩
    rw [← eh] at hh
    obtain ⟨z, ez⟩ : ∃ z, z = mid + m - 1 - h := ⟨_, rfl⟩
    have ez' : (mid : Int) + m - 1 - h = (z : Int) := by omega
    have l := less (f z) (f h) (hf z (by omega)) (hf h (by omega))
    by_cases lt : c (f z) (f h) < 0
    · have ih' := ih (i, h) ⟨p1, by dsimp only; omega, by dsimp only; omega, p4, fun x h3 h4 => ?_⟩ (by dsimp only; omega)
      · simp (disch := omega) only [decide_true, decide_false, if_true, if_false, Bool.false_eq_true, Bool.true_eq_false, eq_self, Bool.true_or, Bool.false_or, Bool.true_and, Bool.false_and, Bool.or_true, Bool.or_false, Bool.and_true, Bool.and_false, List.getD_cons_zero, List.getD_cons_succ, cell_int, cell_bool, cell_str, cell_sl, cell_agg, i_int, b_bool, s_str, nb_sl, els_sl, nb_ov, els_ov, cs_pv, cs_agg, Int.toNat_natCast, toNat_sub1, toNat_add1, List.length_map, getD_map, ct, cf, beqd, bned, cp, cn, cnp, cnn, if_pos, if_neg, wrap64, Option.bind_some, Bool.not_true, Bool.not_false, List.isEmpty_nil, List.nil_append, List.length_nil, List.length_cons, Nat.zero_add, hh, hmid, ez', mk_length, mk_get, l, lt]
        exact ih'
      · exact Bef.lel hc (P.r.le (by omega) (show mid + m - 1 - x ≤ z by omega) (by omega)) (Bef.ler hc (.inl lt) (P.l.le (by omega) h3 (by omega)))
    · have ih' := ih (h + 1, j) ⟨by dsimp only; omega, by dsimp only; omega, p3, fun x h3 h4 => ?_, p5⟩ (by dsimp only; omega)
      · simp (disch := omega) only [decide_true, decide_false, if_true, if_false, Bool.false_eq_true, Bool.true_eq_false, eq_self, Bool.true_or, Bool.false_or, Bool.true_and, Bool.false_and, Bool.or_true, Bool.or_false, Bool.and_true, Bool.and_false, List.getD_cons_zero, List.getD_cons_succ, cell_int, cell_bool, cell_str, cell_sl, cell_agg, i_int, b_bool, s_str, nb_sl, els_sl, nb_ov, els_ov, cs_pv, cs_agg, Int.toNat_natCast, toNat_sub1, toNat_add1, List.length_map, getD_map, ct, cf, beqd, bned, cp, cn, cnp, cnn, if_pos, if_neg, wrap64, Option.bind_some, Bool.not_true, Bool.not_false, List.isEmpty_nil, List.nil_append, List.length_nil, List.length_cons, Nat.zero_add, hh, hmid, ez', mk_length, mk_get, l, lt]
        exact ih'
      · dsimp only at h4
        exact Bef.lel hc (P.l.le (by omega) (show x ≤ h by omega) (by omega)) (Bef.ler hc (Bef.of_not hc lt (P.x h z (by omega) (by omega) (by omega) (by omega))) (P.r.le (by omega) (by omega) (by omega)))
  subst q
  clear ih
  obtain ⟨e, ee⟩ : ∃ e, e = mid + m - i := ⟨_, rfl⟩
  have ee' : (mid : Int) + m - i = (e : Int) := by omega
  have H1 : i = a ∨ e = b ∨ Bef c (f (i - 1)) (f e) := by
    rcases Nat.lt_or_eq_of_le p1 with g | g
    · have := p4 (i - 1) (by omega) (by omega)
      rw [show mid + m - 1 - (i - 1) = e by omega] at this
      exact .inr (.inr this)
    · subst g
      rcases q6 with h | h
      · exact .inl h
      · exact .inr (.inl (by omega))
  have H2 : e = m ∨ i = m ∨ Bef c (f (e - 1)) (f i) := by
    rcases Nat.lt_or_eq_of_le p3 with g | g
    · have := p5 i (Nat.le_refl _) g
      rw [show mid + m - 1 - i = e - 1 by omega] at this
      exact .inr (.inr this)
    · subst g
      rcases q7 with h | h
      · exact .inr (.inl h)
      · exact .inl (by omega)
  have k0 : a ≤ i := by omega
  have k1 : i ≤ m := by omega
  have k2 : m ≤ e := by omega
  have k3 : e ≤ b := by omega
  have emid : i + (e - m) = mid := by omega
  have PL := P.left k0 k1 k2 k3
  have PR := P.right k0 k1 k2 k3
  have S0 := Seg.rot f k1 k2
  have fin := fun {g1 g2 : Nat → Int} G1 S1 G2 S2 => P.done (g1 := g1) (g2 := g2) hc k0 k1 k2 k3 H1 H2 G1 S1 G2 S2
  rw [emid] at PL PR fin
  obtain ⟨F, eF⟩ : ∃ F, F = rot i m e f := ⟨_, rfl⟩
  rw [← eF] at PL PR S0 fin
  have FV : ∀ x, x < N → V (F x) := fun x hx => S0.all (V := V) (by omega) hf x hx
  have R1 : i < m → m < e → Cl ty tab 74 [.ov 3 n1 (mk N f), .int .i64 i, .int .i64 m, .int .i64 e, .fn 34 [.rp [.sl 39 nc lc] 0]] = some [.ov 3 n1 (mk N F)] := fun c1 c2 => by
    rw [eF]; exact rotate_ok hN n1 nc lc i m e c1 c2 (by omega) f
  have R2 : ¬ (i < m ∧ m < e) → f = F := fun hh => by
    rw [eF]
    by_cases c1 : i < m
    · exact (rot_right (by omega) (by omega)).symm
    · exact (rot_left (by omega) (by omega)).symm
  obtain ⟨g1, A1, A2, A3, A4⟩ : ∃ g1, (a < i → i < mid → Cl ty tab 66 [.ov 3 n1 (mk N F), .int .i64 a, .int .i64 i, .int .i64 mid, .fn 34 [.rp [.sl 39 nc lc] 0]] = some [.ov 3 n1 (mk N g1)]) ∧ (¬ (a < i ∧ i < mid) → F = g1) ∧ Seg a mid F g1 ∧ Srt c g1 a mid := by
    by_cases hh : a < i ∧ i < mid
    · obtain ⟨g, e1, e2, e3⟩ := IH a i mid F (by omega) hh.1 hh.2 (by omega) FV PL
      exact ⟨g, fun _ _ => e1, fun h => absurd hh h, e2, e3⟩
    · refine ⟨F, fun x y => absurd ⟨x, y⟩ hh, fun _ => rfl, Seg.refl _ _ _, ?_⟩
      by_cases c1 : a < i
      · have : i = mid := by omega
        rw [← this]; exact PL.l
      · have : i = a := by omega
        rw [← this]; exact PL.r
  have GV : ∀ x, x < N → V (g1 x) := fun x hx => A3.all (V := V) (by omega) FV x hx
  have PR' : MPre c g1 mid e b := ⟨fun x y u v w => by rw [A3.out (.inr u), A3.out (.inr (by omega))]; exact PR.l x y u v w, fun x y u v w => by rw [A3.out (.inr (by omega)), A3.out (.inr (by omega))]; exact PR.r x y u v w, fun x y u v w z => by rw [A3.out (.inr u), A3.out (.inr (by omega))]; exact PR.x x y u v w z⟩
  obtain ⟨g2, B1, B2, B3, B4⟩ : ∃ g2, (mid < e → e < b → Cl ty tab 66 [.ov 3 n1 (mk N g1), .int .i64 mid, .int .i64 e, .int .i64 b, .fn 34 [.rp [.sl 39 nc lc] 0]] = some [.ov 3 n1 (mk N g2)]) ∧ (¬ (mid < e ∧ e < b) → g1 = g2) ∧ Seg mid b g1 g2 ∧ Srt c g2 mid b := by
    by_cases hh : mid < e ∧ e < b
    · obtain ⟨g, e1, e2, e3⟩ := IH mid e b g1 (by omega) hh.1 hh.2 (by omega) GV PR'
      exact ⟨g, fun _ _ => e1, fun h => absurd hh h, e2, e3⟩
    · refine ⟨g1, fun x y => absurd ⟨x, y⟩ hh, fun _ => rfl, Seg.refl _ _ _, ?_⟩
      by_cases c1 : mid < e
      · have : e = b := by omega
        rw [← this]; exact PR'.l
      · have : e = mid := by omega
        rw [← this]; exact PR'.r
  have whole : Seg a b f g2 := ((S0.mono k0 k3).trans (A3.mono (Nat.le_refl _) (by omega))).trans (B3.mono (by omega) (Nat.le_refl _))
  have sorted := fin A3 A4 B3 B4
  suffices G : ∀ again : List D → Option (List D), slices_symMergeCmpFunc.b4 (Cl ty tab) (N + 2) (mk N f) a m b nc lc [.int .i64 i, .int .i64 i, .ov 3 n1 (mk N f)] again = some [.ov 3 n1 (mk N g2)] by
    have := G again
    unfold slices_symMergeCmpFunc.b4 at this
    exact ⟨_, this, g2, rfl, whole, sorted⟩
  intro again
  clear P IH hc PL PR fin FV GV PR' H1 H2 p4 p5 less hf S0 A3 A4 B3 B4 whole sorted eF q6 q7
  unfold slices_symMergeCmpFunc.b4
  have D1 : (i < m ∧ m < e) ∨ ¬ (i < m ∧ m < e) := by omega
  have D2 : (a < i ∧ i < mid) ∨ ¬ (a < i ∧ i < mid) := by omega
  have D3 : (mid < e ∧ e < b) ∨ ¬ (mid < e ∧ e < b) := by omega
  rcases D1 with c1 | c1
  · have X1 := R1 c1.1 c1.2
    rcases D2 with c2 | c2
    · have X2 := A1 c2.1 c2.2
      rcases D3 with c3 | c3
      · have X3 := B1 c3.1 c3.2
        clear R1 R2 A1 A2 B1 B2
        simp (disch := omega) only [decide_true, decide_false, if_true, if_false, Bool.false_eq_true, Bool.true_eq_false, eq_self, Bool.true_or, Bool.false_or, Bool.true_and, Bool.false_and, Bool.or_true, Bool.or_false, Bool.and_true, Bool.and_false, List.getD_cons_zero, List.getD_cons_succ, cell_int, cell_bool, cell_str, cell_sl, cell_agg, i_int, b_bool, s_str, nb_sl, els_sl, nb_ov, els_ov, cs_pv, cs_agg, Int.toNat_natCast, toNat_sub1, toNat_add1, List.length_map, getD_map, ct, cf, beqd, bned, cp, cn, cnp, cnn, if_pos, if_neg, wrap64, Option.bind_some, Bool.not_true, Bool.not_false, List.isEmpty_nil, List.nil_append, List.length_nil, List.length_cons, Nat.zero_add, hmid, ee', X1, X2, X3]
      · have X3 := B2 c3
        subst X3
        clear R1 R2 A1 A2 B1 B2
        by_cases c4 : mid < e
        · first | omega | (simp (disch := omega) only [decide_true, decide_false, if_true, if_false, Bool.false_eq_true, Bool.true_eq_false, eq_self, Bool.true_or, Bool.false_or, Bool.true_and, Bool.false_and, Bool.or_true, Bool.or_false, Bool.and_true, Bool.and_false, List.getD_cons_zero, List.getD_cons_succ, cell_int, cell_bool, cell_str, cell_sl, cell_agg, i_int, b_bool, s_str, nb_sl, els_sl, nb_ov, els_ov, cs_pv, cs_agg, Int.toNat_natCast, toNat_sub1, toNat_add1, List.length_map, getD_map, ct, cf, beqd, bned, cp, cn, cnp, cnn, if_pos, if_neg, wrap64, Option.bind_some, Bool.not_true, Bool.not_false, List.isEmpty_nil, List.nil_append, List.length_nil, List.length_cons, Nat.zero_add, hmid, ee', X1, X2])
        · first | omega | (simp (disch := omega) only [decide_true, decide_false, if_true, if_false, Bool.false_eq_true, Bool.true_eq_false, eq_self, Bool.true_or, Bool.false_or, Bool.true_and, Bool.false_and, Bool.or_true, Bool.or_false, Bool.and_true, Bool.and_false, List.getD_cons_zero, List.getD_cons_succ, cell_int, cell_bool, cell_str, cell_sl, cell_agg, i_int, b_bool, s_str, nb_sl, els_sl, nb_ov, els_ov, cs_pv, cs_agg, Int.toNat_natCast, toNat_sub1, toNat_add1, List.length_map, getD_map, ct, cf, beqd, bned, cp, cn, cnp, cnn, if_pos, if_neg, wrap64, Option.bind_some, Bool.not_true, Bool.not_false, List.isEmpty_nil, List.nil_append, List.length_nil, List.length_cons, Nat.zero_add, hmid, ee', X1, X2])
    · have X2 := A2 c2
      subst X2
      rcases D3 with c3 | c3
      · have X3 := B1 c3.1 c3.2
        clear R1 R2 A1 A2 B1 B2
        by_cases c4 : a < i
        · first | omega | (simp (disch := omega) only [decide_true, decide_false, if_true, if_false, Bool.false_eq_true, Bool.true_eq_false, eq_self, Bool.true_or, Bool.false_or, Bool.true_and, Bool.false_and, Bool.or_true, Bool.or_false, Bool.and_true, Bool.and_false, List.getD_cons_zero, List.getD_cons_succ, cell_int, cell_bool, cell_str, cell_sl, cell_agg, i_int, b_bool, s_str, nb_sl, els_sl, nb_ov, els_ov, cs_pv, cs_agg, Int.toNat_natCast, toNat_sub1, toNat_add1, List.length_map, getD_map, ct, cf, beqd, bned, cp, cn, cnp, cnn, if_pos, if_neg, wrap64, Option.bind_some, Bool.not_true, Bool.not_false, List.isEmpty_nil, List.nil_append, List.length_nil, List.length_cons, Nat.zero_add, hmid, ee', X1, X3])
        · first | omega | (simp (disch := omega) only [decide_true, decide_false, if_true, if_false, Bool.false_eq_true, Bool.true_eq_false, eq_self, Bool.true_or, Bool.false_or, Bool.true_and, Bool.false_and, Bool.or_true, Bool.or_false, Bool.and_true, Bool.and_false, List.getD_cons_zero, List.getD_cons_succ, cell_int, cell_bool, cell_str, cell_sl, cell_agg, i_int, b_bool, s_str, nb_sl, els_sl, nb_ov, els_ov, cs_pv, cs_agg, Int.toNat_natCast, toNat_sub1, toNat_add1, List.length_map, getD_map, ct, cf, beqd, bned, cp, cn, cnp, cnn, if_pos, if_neg, wrap64, Option.bind_some, Bool.not_true, Bool.not_false, List.isEmpty_nil, List.nil_append, List.length_nil, List.length_cons, Nat.zero_add, hmid, ee', X1, X3])
      · have X3 := B2 c3
        subst X3
        clear R1 R2 A1 A2 B1 B2
        by_cases c4 : a < i <;> by_cases c5 : mid < e <;> first | omega | (simp (disch := omega) only [decide_true, decide_false, if_true, if_false, Bool.false_eq_true, Bool.true_eq_false, eq_self, Bool.true_or, Bool.false_or, Bool.true_and, Bool.false_and, Bool.or_true, Bool.or_false, Bool.and_true, Bool.and_false, List.getD_cons_zero, List.getD_cons_succ, cell_int, cell_bool, cell_str, cell_sl, cell_agg, i_int, b_bool, s_str, nb_sl, els_sl, nb_ov, els_ov, cs_pv, cs_agg, Int.toNat_natCast, toNat_sub1, toNat_add1, List.length_map, getD_map, ct, cf, beqd, bned, cp, cn, cnp, cnn, if_pos, if_neg, wrap64, Option.bind_some, Bool.not_true, Bool.not_false, List.isEmpty_nil, List.nil_append, List.length_nil, List.length_cons, Nat.zero_add, hmid, ee', X1])
  · have X1 := R2 c1
    subst X1
    rcases D2 with c2 | c2
    · have X2 := A1 c2.1 c2.2
      rcases D3 with c3 | c3
      · have X3 := B1 c3.1 c3.2
        clear R1 R2 A1 A2 B1 B2
        by_cases c4 : i < m <;> first | omega | (simp (disch := omega) only [decide_true, decide_false, if_true, if_false, Bool.false_eq_true, Bool.true_eq_false, eq_self, Bool.true_or, Bool.false_or, Bool.true_and, Bool.false_and, Bool.or_true, Bool.or_false, Bool.and_true, Bool.and_false, List.getD_cons_zero, List.getD_cons_succ, cell_int, cell_bool, cell_str, cell_sl, cell_agg, i_int, b_bool, s_str, nb_sl, els_sl, nb_ov, els_ov, cs_pv, cs_agg, Int.toNat_natCast, toNat_sub1, toNat_add1, List.length_map, getD_map, ct, cf, beqd, bned, cp, cn, cnp, cnn, if_pos, if_neg, wrap64, Option.bind_some, Bool.not_true, Bool.not_false, List.isEmpty_nil, List.nil_append, List.length_nil, List.length_cons, Nat.zero_add, hmid, ee', X2, X3])
      · have X3 := B2 c3
        subst X3
        clear R1 R2 A1 A2 B1 B2
        by_cases c4 : i < m <;> by_cases c5 : mid < e <;> first | omega | (simp (disch := omega) only [decide_true, decide_false, if_true, if_false, Bool.false_eq_true, Bool.true_eq_false, eq_self, Bool.true_or, Bool.false_or, Bool.true_and, Bool.false_and, Bool.or_true, Bool.or_false, Bool.and_true, Bool.and_false, List.getD_cons_zero, List.getD_cons_succ, cell_int, cell_bool, cell_str, cell_sl, cell_agg, i_int, b_bool, s_str, nb_sl, els_sl, nb_ov, els_ov, cs_pv, cs_agg, Int.toNat_natCast, toNat_sub1, toNat_add1, List.length_map, getD_map, ct, cf, beqd, bned, cp, cn, cnp, cnn, if_pos, if_neg, wrap64, Option.bind_some, Bool.not_true, Bool.not_false, List.isEmpty_nil, List.nil_append, List.length_nil, List.length_cons, Nat.zero_add, hmid, ee', X2])
    · have X2 := A2 c2
      subst X2
      rcases D3 with c3 | c3
      · have X3 := B1 c3.1 c3.2
        clear R1 R2 A1 A2 B1 B2
        by_cases c4 : i < m <;> by_cases c5 : a < i <;> first | omega | (simp (disch := omega) only [decide_true, decide_false, if_true, if_false, Bool.false_eq_true, Bool.true_eq_false, eq_self, Bool.true_or, Bool.false_or, Bool.true_and, Bool.false_and, Bool.or_true, Bool.or_false, Bool.and_true, Bool.and_false, List.getD_cons_zero, List.getD_cons_succ, cell_int, cell_bool, cell_str, cell_sl, cell_agg, i_int, b_bool, s_str, nb_sl, els_sl, nb_ov, els_ov, cs_pv, cs_agg, Int.toNat_natCast, toNat_sub1, toNat_add1, List.length_map, getD_map, ct, cf, beqd, bned, cp, cn, cnp, cnn, if_pos, if_neg, wrap64, Option.bind_some, Bool.not_true, Bool.not_false, List.isEmpty_nil, List.nil_append, List.length_nil, List.length_cons, Nat.zero_add, hmid, ee', X3])
      · have X3 := B2 c3
        subst X3
        clear R1 R2 A1 A2 B1 B2
        by_cases c4 : i < m <;> by_cases c5 : a < i <;> by_cases c6 : mid < e <;> first | omega | (simp (disch := omega) only [decide_true, decide_false, if_true, if_false, Bool.false_eq_true, Bool.true_eq_false, eq_self, Bool.true_or, Bool.false_or, Bool.true_and, Bool.false_and, Bool.or_true, Bool.or_false, Bool.and_true, Bool.and_false, List.getD_cons_zero, List.getD_cons_succ, cell_int, cell_bool, cell_str, cell_sl, cell_agg, i_int, b_bool, s_str, nb_sl, els_sl, nb_ov, els_ov, cs_pv, cs_agg, Int.toNat_natCast, toNat_sub1, toNat_add1, List.length_map, getD_map, ct, cf, beqd, bned, cp, cn, cnp, cnn, if_pos, if_neg, wrap64, Option.bind_some, Bool.not_true, Bool.not_false, List.isEmpty_nil, List.nil_append, List.length_nil, List.length_cons, Nat.zero_add, hmid, ee'])

theorem symMerge_ok : ∀ n, MergeOk N n1 nc lc c V n
  | 0 => fun a m b f h => by omega
  | n + 1 => fun a m b f hn h1 h2 hb hf P => by
    have IH : MergeOk N n1 nc lc c V (b - a) := fun a' m' b' f' h' => symMerge_ok n a' m' b' f' (by omega)
    suffices ∃ r, slices_symMergeCmpFunc (Cl ty tab) (N + 2) n1 (mk N f) a m b nc lc = some r ∧ ∃ g, r = [.ov 3 n1 (mk N g)] ∧ Seg a b f g ∧ Srt c g a b by
      obtain ⟨r, e, g, rfl, h⟩ := this
      exact ⟨g, s_slices_symMergeCmpFunc (N + 2) n1 _ _ _ _ nc lc e, h⟩
    unfold slices_symMergeCmpFunc
    have hmid := half1 (i := a) (j := b) (by omega)
    obtain ⟨mid, em⟩ : ∃ mid, mid = (a + b) / 2 := ⟨_, rfl⟩
    rw [← em] at hmid
    by_cases c1 : m = a + 1
    · have := one_left hN n1 nc lc hc less n a m b c1 h2 hb f hf P
      have c1' : (m : Int) - a = 1 := by omega
      simp (disch := omega) only [decide_true, decide_false, if_true, if_false, Bool.false_eq_true, Bool.true_eq_false, eq_self, Bool.true_or, Bool.false_or, Bool.true_and, Bool.false_and, Bool.or_true, Bool.or_false, Bool.and_true, Bool.and_false, List.getD_cons_zero, List.getD_cons_succ, cell_int, cell_bool, cell_str, cell_sl, cell_agg, i_int, b_bool, s_str, nb_sl, els_sl, nb_ov, els_ov, cs_pv, cs_agg, Int.toNat_natCast, toNat_sub1, toNat_add1, List.length_map, getD_map, ct, cf, beqd, bned, cp, cn, cnp, cnn, if_pos, if_neg, wrap64, Option.bind_some, Bool.not_true, Bool.not_false, List.isEmpty_nil, List.nil_append, List.length_nil, List.length_cons, Nat.zero_add, c1']
      exact this
    by_cases c2 : b = m + 1
    · have := one_right hN n1 nc lc hc less a m b c2 h1 hb f hf P
      have c2' : (b : Int) - m = 1 := by omega
      simp (disch := omega) only [decide_true, decide_false, if_true, if_false, Bool.false_eq_true, Bool.true_eq_false, eq_self, Bool.true_or, Bool.false_or, Bool.true_and, Bool.false_and, Bool.or_true, Bool.or_false, Bool.and_true, Bool.and_false, List.getD_cons_zero, List.getD_cons_succ, cell_int, cell_bool, cell_str, cell_sl, cell_agg, i_int, b_bool, s_str, nb_sl, els_sl, nb_ov, els_ov, cs_pv, cs_agg, Int.toNat_natCast, toNat_sub1, toNat_add1, List.length_map, getD_map, ct, cf, beqd, bned, cp, cn, cnp, cnn, if_pos, if_neg, wrap64, Option.bind_some, Bool.not_true, Bool.not_false, List.isEmpty_nil, List.nil_append, List.length_nil, List.length_cons, Nat.zero_add, c2']
      exact this
    by_cases c3 : mid < m
    · have := mergeLoop hN n1 nc lc hc less a m b (mid + m - b) mid mid h1 h2 hb f hf P IH em (by omega) (by omega) (by omega) (by omega) (by omega) (by omega) (by omega) (by omega)
      rw [show ((mid + m - b : Nat) : Int) = (mid : Int) + m - b by omega] at this
      simp (disch := omega) only [decide_true, decide_false, if_true, if_false, Bool.false_eq_true, Bool.true_eq_false, eq_self, Bool.true_or, Bool.false_or, Bool.true_and, Bool.false_and, Bool.or_true, Bool.or_false, Bool.and_true, Bool.and_false, List.getD_cons_zero, List.getD_cons_succ, cell_int, cell_bool, cell_str, cell_sl, cell_agg, i_int, b_bool, s_str, nb_sl, els_sl, nb_ov, els_ov, cs_pv, cs_agg, Int.toNat_natCast, toNat_sub1, toNat_add1, List.length_map, getD_map, ct, cf, beqd, bned, cp, cn, cnp, cnn, if_pos, if_neg, wrap64, Option.bind_some, Bool.not_true, Bool.not_false, List.isEmpty_nil, List.nil_append, List.length_nil, List.length_cons, Nat.zero_add, hmid]
      exact this
    · have := mergeLoop hN n1 nc lc hc less a m b a m mid h1 h2 hb f hf P IH em (by omega) (by omega) (by omega) (by omega) (by omega) (by omega) (by omega) (by omega)
      rw [b4_same] at this
      simp (disch := omega) only [decide_true, decide_false, if_true, if_false, Bool.false_eq_true, Bool.true_eq_false, eq_self, Bool.true_or, Bool.false_or, Bool.true_and, Bool.false_and, Bool.or_true, Bool.or_false, Bool.and_true, Bool.and_false, List.getD_cons_zero, List.getD_cons_succ, cell_int, cell_bool, cell_str, cell_sl, cell_agg, i_int, b_bool, s_str, nb_sl, els_sl, nb_ov, els_ov, cs_pv, cs_agg, Int.toNat_natCast, toNat_sub1, toNat_add1, List.length_map, getD_map, ct, cf, beqd, bned, cp, cn, cnp, cnn, if_pos, if_neg, wrap64, Option.bind_some, Bool.not_true, Bool.not_false, List.isEmpty_nil, List.nil_append, List.length_nil, List.length_cons, Nat.zero_add, hmid]
      exact this

omit hN hc less in
theorem iter5 {R : Type} {F : List D → (List D → Option R) → Option R} (s : List D) : iter 5 F s = F s (iter 4 F) := rfl
omit hN hc less in
theorem iter4 {R : Type} {F : List D → (List D → Option R) → Option R} (s : List D) : iter 4 F s = F s (iter 3 F) := rfl
omit hN hc less in
theorem iter3 {R : Type} {F : List D → (List D → Option R) → Option R} (s : List D) : iter 3 F s = F s (iter 2 F) := rfl
set_option maxHeartbeats 4000000 in
theorem stable_ok (hsm : N ≤ 40) (f : Nat → Int) (hf : ∀ x, x < N → V (f x)) (hi : ∀ x y, x < y → y < N → f x < f y) :
    ∃ g, Cl ty tab 57 [.ov 3 n1 (mk N f), .int .i64 N, .fn 34 [.rp [.sl 39 nc lc] 0]] = some [.ov 3 n1 (mk N g)] ∧ Seg 0 N f g ∧ Srt c g 0 N := by
  suffices ∃ g, slices_stableCmpFunc (Cl ty tab) 5 n1 (mk N f) N nc lc = some [.ov 3 n1 (mk N g)] ∧ Seg 0 N f g ∧ Srt c g 0 N by
    obtain ⟨g, e, h⟩ := this
    exact ⟨g, s_slices_stableCmpFunc 5 n1 _ _ nc lc e, h⟩
  unfold slices_stableCmpFunc
  have MG := fun (a m b : Nat) (f : Nat → Int) => symMerge_ok hN n1 nc lc hc less (N + 1) a m b f
  by_cases c1 : N < 20
  · obtain ⟨g, e, h⟩ := insert_ok hN n1 nc lc hc less 0 N (by omega) (Nat.le_refl _) f hf fun x y _ h2 h3 => hi x y h2 h3
    refine ⟨g, ?_, h⟩
    rw [show ((0 : Nat) : Int) = 0 from rfl] at e
    rw [iter5, slices_stableCmpFunc.b0]
    simp (disch := omega) only [decide_true, decide_false, if_true, if_false, Bool.false_eq_true, Bool.true_eq_false, eq_self, Bool.true_or, Bool.false_or, Bool.true_and, Bool.false_and, Bool.or_true, Bool.or_false, Bool.and_true, Bool.and_false, List.getD_cons_zero, List.getD_cons_succ, cell_int, cell_bool, cell_str, cell_sl, cell_agg, i_int, b_bool, s_str, nb_sl, els_sl, nb_ov, els_ov, cs_pv, cs_agg, Int.toNat_natCast, toNat_sub1, toNat_add1, List.length_map, getD_map, ct, cf, beqd, bned, cp, cn, cnp, cnn, if_pos, if_neg, wrap64, Option.bind_some, Bool.not_true, Bool.not_false, List.isEmpty_nil, List.nil_append, List.length_nil, List.length_cons, Nat.zero_add, Int.reduceAdd, Int.reduceMul, e]
    rw [iter5, slices_stableCmpFunc.b1]
    simp (disch := omega) only [decide_true, decide_false, if_true, if_false, Bool.false_eq_true, Bool.true_eq_false, eq_self, Bool.true_or, Bool.false_or, Bool.true_and, Bool.false_and, Bool.or_true, Bool.or_false, Bool.and_true, Bool.and_false, List.getD_cons_zero, List.getD_cons_succ, cell_int, cell_bool, cell_str, cell_sl, cell_agg, i_int, b_bool, s_str, nb_sl, els_sl, nb_ov, els_ov, cs_pv, cs_agg, Int.toNat_natCast, toNat_sub1, toNat_add1, List.length_map, getD_map, ct, cf, beqd, bned, cp, cn, cnp, cnn, if_pos, if_neg, wrap64, Option.bind_some, Bool.not_true, Bool.not_false, List.isEmpty_nil, List.nil_append, List.length_nil, List.length_cons, Nat.zero_add, Int.reduceAdd, Int.reduceMul]
  obtain ⟨f1, e1, G1, S1⟩ := insert_ok hN n1 nc lc hc less 0 20 (by omega) (by omega) f hf fun x y _ h2 h3 => hi x y h2 (by omega)
  have F1 := fun x hx => G1.all (V := V) (by omega) hf x hx
  rw [show ((0 : Nat) : Int) = 0 from rfl, show ((20 : Nat) : Int) = 20 from rfl] at e1
  by_cases c2 : N < 40
  · obtain ⟨f2, e2, G2, S2⟩ := insert_ok hN n1 nc lc hc less 20 N (by omega) (Nat.le_refl _) f1 F1 fun x y h1 h2 h3 => by
      rw [G1.out (.inr h1), G1.out (.inr (by omega))]; exact hi x y h2 h3
    have F2 := fun x hx => G2.all (V := V) (Nat.le_refl _) F1 x hx
    rw [show ((20 : Nat) : Int) = 20 from rfl] at e2
    have S1' : Srt c f2 0 20 := fun x y h1 h2 h3 => by rw [G2.out (.inl (by omega)), G2.out (.inl h3)]; exact S1 x y h1 h2 h3
    have GG : Seg 0 N f f2 := (G1.mono (Nat.le_refl _) (by omega)).trans (G2.mono (by omega) (Nat.le_refl _))
    by_cases c3 : N = 20
    · subst c3
      refine ⟨f2, ?_, GG, S1'⟩
      rw [show ((20 : Nat) : Int) = 20 from rfl] at e2 ⊢
      rw [iter5, slices_stableCmpFunc.b0]
      simp (disch := omega) only [decide_true, decide_false, if_true, if_false, Bool.false_eq_true, Bool.true_eq_false, eq_self, Bool.true_or, Bool.false_or, Bool.true_and, Bool.false_and, Bool.or_true, Bool.or_false, Bool.and_true, Bool.and_false, List.getD_cons_zero, List.getD_cons_succ, cell_int, cell_bool, cell_str, cell_sl, cell_agg, i_int, b_bool, s_str, nb_sl, els_sl, nb_ov, els_ov, cs_pv, cs_agg, Int.toNat_natCast, toNat_sub1, toNat_add1, List.length_map, getD_map, ct, cf, beqd, bned, cp, cn, cnp, cnn, if_pos, if_neg, wrap64, Option.bind_some, Bool.not_true, Bool.not_false, List.isEmpty_nil, List.nil_append, List.length_nil, List.length_cons, Nat.zero_add, Int.reduceAdd, Int.reduceMul, e1]
      rw [iter4, slices_stableCmpFunc.b0]
      simp (disch := omega) only [decide_true, decide_false, if_true, if_false, Bool.false_eq_true, Bool.true_eq_false, eq_self, Bool.true_or, Bool.false_or, Bool.true_and, Bool.false_and, Bool.or_true, Bool.or_false, Bool.and_true, Bool.and_false, List.getD_cons_zero, List.getD_cons_succ, cell_int, cell_bool, cell_str, cell_sl, cell_agg, i_int, b_bool, s_str, nb_sl, els_sl, nb_ov, els_ov, cs_pv, cs_agg, Int.toNat_natCast, toNat_sub1, toNat_add1, List.length_map, getD_map, ct, cf, beqd, bned, cp, cn, cnp, cnn, if_pos, if_neg, wrap64, Option.bind_some, Bool.not_true, Bool.not_false, List.isEmpty_nil, List.nil_append, List.length_nil, List.length_cons, Nat.zero_add, Int.reduceAdd, Int.reduceMul, e2]
      rw [iter5, slices_stableCmpFunc.b1]
      simp (disch := omega) only [decide_true, decide_false, if_true, if_false, Bool.false_eq_true, Bool.true_eq_false, eq_self, Bool.true_or, Bool.false_or, Bool.true_and, Bool.false_and, Bool.or_true, Bool.or_false, Bool.and_true, Bool.and_false, List.getD_cons_zero, List.getD_cons_succ, cell_int, cell_bool, cell_str, cell_sl, cell_agg, i_int, b_bool, s_str, nb_sl, els_sl, nb_ov, els_ov, cs_pv, cs_agg, Int.toNat_natCast, toNat_sub1, toNat_add1, List.length_map, getD_map, ct, cf, beqd, bned, cp, cn, cnp, cnn, if_pos, if_neg, wrap64, Option.bind_some, Bool.not_true, Bool.not_false, List.isEmpty_nil, List.nil_append, List.length_nil, List.length_cons, Nat.zero_add, Int.reduceAdd, Int.reduceMul]
    · obtain ⟨g, e3, G3, S3⟩ := MG 0 20 N f2 (by omega) (by omega) (by omega) (Nat.le_refl _) F2 ⟨S1', S2, fun x y h1 h2 h3 h4 => by
        obtain ⟨x', p1, p2, p3⟩ := G1.ins h1 h2
        obtain ⟨y', q1, q2, q3⟩ := G2.ins h3 h4
        rw [G2.out (.inl h2), p3, q3, G1.out (.inr q1)]
        exact hi _ _ (by omega) q2⟩
      rw [show ((0 : Nat) : Int) = 0 from rfl, show ((20 : Nat) : Int) = 20 from rfl] at e3
      refine ⟨g, ?_, GG.trans G3, S3⟩
      rw [iter5, slices_stableCmpFunc.b0]
      simp (disch := omega) only [decide_true, decide_false, if_true, if_false, Bool.false_eq_true, Bool.true_eq_false, eq_self, Bool.true_or, Bool.false_or, Bool.true_and, Bool.false_and, Bool.or_true, Bool.or_false, Bool.and_true, Bool.and_false, List.getD_cons_zero, List.getD_cons_succ, cell_int, cell_bool, cell_str, cell_sl, cell_agg, i_int, b_bool, s_str, nb_sl, els_sl, nb_ov, els_ov, cs_pv, cs_agg, Int.toNat_natCast, toNat_sub1, toNat_add1, List.length_map, getD_map, ct, cf, beqd, bned, cp, cn, cnp, cnn, if_pos, if_neg, wrap64, Option.bind_some, Bool.not_true, Bool.not_false, List.isEmpty_nil, List.nil_append, List.length_nil, List.length_cons, Nat.zero_add, Int.reduceAdd, Int.reduceMul, e1]
      rw [iter4, slices_stableCmpFunc.b0]
      simp (disch := omega) only [decide_true, decide_false, if_true, if_false, Bool.false_eq_true, Bool.true_eq_false, eq_self, Bool.true_or, Bool.false_or, Bool.true_and, Bool.false_and, Bool.or_true, Bool.or_false, Bool.and_true, Bool.and_false, List.getD_cons_zero, List.getD_cons_succ, cell_int, cell_bool, cell_str, cell_sl, cell_agg, i_int, b_bool, s_str, nb_sl, els_sl, nb_ov, els_ov, cs_pv, cs_agg, Int.toNat_natCast, toNat_sub1, toNat_add1, List.length_map, getD_map, ct, cf, beqd, bned, cp, cn, cnp, cnn, if_pos, if_neg, wrap64, Option.bind_some, Bool.not_true, Bool.not_false, List.isEmpty_nil, List.nil_append, List.length_nil, List.length_cons, Nat.zero_add, Int.reduceAdd, Int.reduceMul, e2]
      rw [iter5, slices_stableCmpFunc.b1]
      simp (disch := omega) only [decide_true, decide_false, if_true, if_false, Bool.false_eq_true, Bool.true_eq_false, eq_self, Bool.true_or, Bool.false_or, Bool.true_and, Bool.false_and, Bool.or_true, Bool.or_false, Bool.and_true, Bool.and_false, List.getD_cons_zero, List.getD_cons_succ, cell_int, cell_bool, cell_str, cell_sl, cell_agg, i_int, b_bool, s_str, nb_sl, els_sl, nb_ov, els_ov, cs_pv, cs_agg, Int.toNat_natCast, toNat_sub1, toNat_add1, List.length_map, getD_map, ct, cf, beqd, bned, cp, cn, cnp, cnn, if_pos, if_neg, wrap64, Option.bind_some, Bool.not_true, Bool.not_false, List.isEmpty_nil, List.nil_append, List.length_nil, List.length_cons, Nat.zero_add, Int.reduceAdd, Int.reduceMul]
      rw [iter5, slices_stableCmpFunc.b2]
      simp (disch := omega) only [decide_true, decide_false, if_true, if_false, Bool.false_eq_true, Bool.true_eq_false, eq_self, Bool.true_or, Bool.false_or, Bool.true_and, Bool.false_and, Bool.or_true, Bool.or_false, Bool.and_true, Bool.and_false, List.getD_cons_zero, List.getD_cons_succ, cell_int, cell_bool, cell_str, cell_sl, cell_agg, i_int, b_bool, s_str, nb_sl, els_sl, nb_ov, els_ov, cs_pv, cs_agg, Int.toNat_natCast, toNat_sub1, toNat_add1, List.length_map, getD_map, ct, cf, beqd, bned, cp, cn, cnp, cnn, if_pos, if_neg, wrap64, Option.bind_some, Bool.not_true, Bool.not_false, List.isEmpty_nil, List.nil_append, List.length_nil, List.length_cons, Nat.zero_add, Int.reduceAdd, Int.reduceMul, e3]
      rw [iter4, slices_stableCmpFunc.b1]
      simp (disch := omega) only [decide_true, decide_false, if_true, if_false, Bool.false_eq_true, Bool.true_eq_false, eq_self, Bool.true_or, Bool.false_or, Bool.true_and, Bool.false_and, Bool.or_true, Bool.or_false, Bool.and_true, Bool.and_false, List.getD_cons_zero, List.getD_cons_succ, cell_int, cell_bool, cell_str, cell_sl, cell_agg, i_int, b_bool, s_str, nb_sl, els_sl, nb_ov, els_ov, cs_pv, cs_agg, Int.toNat_natCast, toNat_sub1, toNat_add1, List.length_map, getD_map, ct, cf, beqd, bned, cp, cn, cnp, cnn, if_pos, if_neg, wrap64, Option.bind_some, Bool.not_true, Bool.not_false, List.isEmpty_nil, List.nil_append, List.length_nil, List.length_cons, Nat.zero_add, Int.reduceAdd, Int.reduceMul]
  · have c4 : N = 40 := by omega
    obtain ⟨f2, e2, G2, S2⟩ := insert_ok hN n1 nc lc hc less 20 40 (by omega) (by omega) f1 F1 fun x y h1 h2 h3 => by
      rw [G1.out (.inr h1), G1.out (.inr (by omega))]; exact hi x y h2 (by omega)
    have F2 := fun x hx => G2.all (V := V) (by omega) F1 x hx
    obtain ⟨f3, e3, G3, S3⟩ := insert_ok hN n1 nc lc hc less 40 40 (by omega) (by omega) f2 F2 fun x y h1 h2 h3 => by omega
    have F3 := fun x hx => G3.all (V := V) (by omega) F2 x hx
    have S1' : Srt c f3 0 20 := fun x y h1 h2 h3 => by rw [G3.out (.inl (by omega)), G3.out (.inl (by omega)), G2.out (.inl (by omega)), G2.out (.inl h3)]; exact S1 x y h1 h2 h3
    have S2' : Srt c f3 20 40 := fun x y h1 h2 h3 => by rw [G3.out (.inl (by omega)), G3.out (.inl (by omega))]; exact S2 x y h1 h2 h3
    have GG : Seg 0 40 f f3 := ((G1.mono (Nat.le_refl _) (by omega)).trans (G2.mono (by omega) (Nat.le_refl _))).trans (G3.mono (by omega) (Nat.le_refl _))
    obtain ⟨g, e4, G4, S4⟩ := MG 0 20 40 f3 (by omega) (by omega) (by omega) (by omega) F3 ⟨S1', S2', fun x y h1 h2 h3 h4 => by
        obtain ⟨x', p1, p2, p3⟩ := G1.ins h1 h2
        obtain ⟨y', q1, q2, q3⟩ := G2.ins h3 h4
        rw [G3.out (.inl (by omega)), G3.out (.inl (by omega)), G2.out (.inl h2), p3, q3, G1.out (.inr q1)]
        exact hi _ _ (by omega) (by omega)⟩
    rw [show ((20 : Nat) : Int) = 20 from rfl, show ((40 : Nat) : Int) = 40 from rfl] at e2
    rw [show ((40 : Nat) : Int) = 40 from rfl] at e3
    rw [show ((0 : Nat) : Int) = 0 from rfl, show ((20 : Nat) : Int) = 20 from rfl, show ((40 : Nat) : Int) = 40 from rfl] at e4
    have c5 : (N : Int) = 40 := by omega
    refine ⟨g, ?_, by rw [c4]; exact GG.trans G4, by rw [c4]; exact S4⟩
    rw [c5]
    rw [iter5, slices_stableCmpFunc.b0]
    simp (disch := omega) only [decide_true, decide_false, if_true, if_false, Bool.false_eq_true, Bool.true_eq_false, eq_self, Bool.true_or, Bool.false_or, Bool.true_and, Bool.false_and, Bool.or_true, Bool.or_false, Bool.and_true, Bool.and_false, List.getD_cons_zero, List.getD_cons_succ, cell_int, cell_bool, cell_str, cell_sl, cell_agg, i_int, b_bool, s_str, nb_sl, els_sl, nb_ov, els_ov, cs_pv, cs_agg, Int.toNat_natCast, toNat_sub1, toNat_add1, List.length_map, getD_map, ct, cf, beqd, bned, cp, cn, cnp, cnn, if_pos, if_neg, wrap64, Option.bind_some, Bool.not_true, Bool.not_false, List.isEmpty_nil, List.nil_append, List.length_nil, List.length_cons, Nat.zero_add, Int.reduceAdd, Int.reduceMul, e1, c5]
    rw [iter4, slices_stableCmpFunc.b0]
    simp (disch := omega) only [decide_true, decide_false, if_true, if_false, Bool.false_eq_true, Bool.true_eq_false, eq_self, Bool.true_or, Bool.false_or, Bool.true_and, Bool.false_and, Bool.or_true, Bool.or_false, Bool.and_true, Bool.and_false, List.getD_cons_zero, List.getD_cons_succ, cell_int, cell_bool, cell_str, cell_sl, cell_agg, i_int, b_bool, s_str, nb_sl, els_sl, nb_ov, els_ov, cs_pv, cs_agg, Int.toNat_natCast, toNat_sub1, toNat_add1, List.length_map, getD_map, ct, cf, beqd, bned, cp, cn, cnp, cnn, if_pos, if_neg, wrap64, Option.bind_some, Bool.not_true, Bool.not_false, List.isEmpty_nil, List.nil_append, List.length_nil, List.length_cons, Nat.zero_add, Int.reduceAdd, Int.reduceMul, e2, c5]
    rw [iter3, slices_stableCmpFunc.b0]
    simp (disch := omega) only [decide_true, decide_false, if_true, if_false, Bool.false_eq_true, Bool.true_eq_false, eq_self, Bool.true_or, Bool.false_or, Bool.true_and, Bool.false_and, Bool.or_true, Bool.or_false, Bool.and_true, Bool.and_false, List.getD_cons_zero, List.getD_cons_succ, cell_int, cell_bool, cell_str, cell_sl, cell_agg, i_int, b_bool, s_str, nb_sl, els_sl, nb_ov, els_ov, cs_pv, cs_agg, Int.toNat_natCast, toNat_sub1, toNat_add1, List.length_map, getD_map, ct, cf, beqd, bned, cp, cn, cnp, cnn, if_pos, if_neg, wrap64, Option.bind_some, Bool.not_true, Bool.not_false, List.isEmpty_nil, List.nil_append, List.length_nil, List.length_cons, Nat.zero_add, Int.reduceAdd, Int.reduceMul, e3, c5]
    rw [iter5, slices_stableCmpFunc.b1]
    simp (disch := omega) only [decide_true, decide_false, if_true, if_false, Bool.false_eq_true, Bool.true_eq_false, eq_self, Bool.true_or, Bool.false_or, Bool.true_and, Bool.false_and, Bool.or_true, Bool.or_false, Bool.and_true, Bool.and_false, List.getD_cons_zero, List.getD_cons_succ, cell_int, cell_bool, cell_str, cell_sl, cell_agg, i_int, b_bool, s_str, nb_sl, els_sl, nb_ov, els_ov, cs_pv, cs_agg, Int.toNat_natCast, toNat_sub1, toNat_add1, List.length_map, getD_map, ct, cf, beqd, bned, cp, cn, cnp, cnn, if_pos, if_neg, wrap64, Option.bind_some, Bool.not_true, Bool.not_false, List.isEmpty_nil, List.nil_append, List.length_nil, List.length_cons, Nat.zero_add, Int.reduceAdd, Int.reduceMul, c5]
    rw [iter5, slices_stableCmpFunc.b2]
    simp (disch := omega) only [decide_true, decide_false, if_true, if_false, Bool.false_eq_true, Bool.true_eq_false, eq_self, Bool.true_or, Bool.false_or, Bool.true_and, Bool.false_and, Bool.or_true, Bool.or_false, Bool.and_true, Bool.and_false, List.getD_cons_zero, List.getD_cons_succ, cell_int, cell_bool, cell_str, cell_sl, cell_agg, i_int, b_bool, s_str, nb_sl, els_sl, nb_ov, els_ov, cs_pv, cs_agg, Int.toNat_natCast, toNat_sub1, toNat_add1, List.length_map, getD_map, ct, cf, beqd, bned, cp, cn, cnp, cnn, if_pos, if_neg, wrap64, Option.bind_some, Bool.not_true, Bool.not_false, List.isEmpty_nil, List.nil_append, List.length_nil, List.length_cons, Nat.zero_add, Int.reduceAdd, Int.reduceMul, e4, c5]
    rw [iter4, slices_stableCmpFunc.b2]
    simp (disch := omega) only [decide_true, decide_false, if_true, if_false, Bool.false_eq_true, Bool.true_eq_false, eq_self, Bool.true_or, Bool.false_or, Bool.true_and, Bool.false_and, Bool.or_true, Bool.or_false, Bool.and_true, Bool.and_false, List.getD_cons_zero, List.getD_cons_succ, cell_int, cell_bool, cell_str, cell_sl, cell_agg, i_int, b_bool, s_str, nb_sl, els_sl, nb_ov, els_ov, cs_pv, cs_agg, Int.toNat_natCast, toNat_sub1, toNat_add1, List.length_map, getD_map, ct, cf, beqd, bned, cp, cn, cnp, cnn, if_pos, if_neg, wrap64, Option.bind_some, Bool.not_true, Bool.not_false, List.isEmpty_nil, List.nil_append, List.length_nil, List.length_cons, Nat.zero_add, Int.reduceAdd, Int.reduceMul, c5]
    rw [iter4, slices_stableCmpFunc.b1]
    simp (disch := omega) only [decide_true, decide_false, if_true, if_false, Bool.false_eq_true, Bool.true_eq_false, eq_self, Bool.true_or, Bool.false_or, Bool.true_and, Bool.false_and, Bool.or_true, Bool.or_false, Bool.and_true, Bool.and_false, List.getD_cons_zero, List.getD_cons_succ, cell_int, cell_bool, cell_str, cell_sl, cell_agg, i_int, b_bool, s_str, nb_sl, els_sl, nb_ov, els_ov, cs_pv, cs_agg, Int.toNat_natCast, toNat_sub1, toNat_add1, List.length_map, getD_map, ct, cf, beqd, bned, cp, cn, cnp, cnn, if_pos, if_neg, wrap64, Option.bind_some, Bool.not_true, Bool.not_false, List.isEmpty_nil, List.nil_append, List.length_nil, List.length_cons, Nat.zero_add, Int.reduceAdd, Int.reduceMul, c5]

theorem sortStable_ok (hsm : N ≤ 40) (f : Nat → Int) (hf : ∀ x, x < N → V (f x)) (hi : ∀ x y, x < y → y < N → f x < f y) :
    ∃ g, Cl ty tab 33 [.ov 3 n1 (mk N f), .fn 34 [.rp [.sl 39 nc lc] 0]] = some [.ov 3 n1 (mk N g)] ∧ Seg 0 N f g ∧ Srt c g 0 N := by
  obtain ⟨g, e, h⟩ := stable_ok hN n1 nc lc hc less hsm f hf hi
  refine ⟨g, s_slices_SortStableFunc 0 n1 _ nc lc ?_, h⟩
  unfold slices_SortStableFunc
  simp (disch := omega) only [decide_true, decide_false, if_true, if_false, Bool.false_eq_true, Bool.true_eq_false, eq_self, Bool.true_or, Bool.false_or, Bool.true_and, Bool.false_and, Bool.or_true, Bool.or_false, Bool.and_true, Bool.and_false, List.getD_cons_zero, List.getD_cons_succ, cell_int, cell_bool, cell_str, cell_sl, cell_agg, i_int, b_bool, s_str, nb_sl, els_sl, nb_ov, els_ov, cs_pv, cs_agg, Int.toNat_natCast, toNat_sub1, toNat_add1, List.length_map, getD_map, ct, cf, beqd, bned, cp, cn, cnp, cnn, if_pos, if_neg, wrap64, Option.bind_some, Bool.not_true, Bool.not_false, List.isEmpty_nil, List.nil_append, List.length_nil, List.length_cons, Nat.zero_add, mk_length, e]

end
end Go.Proofs.Ytekkbhmlocageaa.Own
