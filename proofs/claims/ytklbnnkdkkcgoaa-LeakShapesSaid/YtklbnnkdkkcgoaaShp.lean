import Derived.Test.YtklbnnkdkkcgoaaG
import Derived.Test.YtklbnnkdkkcgoaaHops0
import Derived.Test.YtklbnnkdkkcgoaaRLeakShapes
namespace Go.Proofs.Ytklbnnkdkkcgoaa.Own
open Go Go.Proofs.Ytklbnnkdkkcgoaa.GD
set_option linter.unusedVariables false
set_option linter.unusedSimpArgs false

def badS (s : Bool) (h : Int) : Bool := if s = true then doubtH h else notH h
def good (l : List At) (s : Bool) (x y : Int) : Bool := !badS s (hopF l x y)

theorem hopF_vals (l : List At) (x y : Int) : hopF l x y = 0 ∨ hopF l x y = 1 ∨ hopF l x y = 2 := by
  unfold hopF
  split
  · exact .inl rfl
  · split
    · exact .inr (.inl rfl)
    · exact .inr (.inr rfl)

theorem right_ok (n : Bool) (l : List At) (s : Bool) (x y : Int) (hl : Fine l) (hc : checkF l = 0) : Cl ty tab 28 [.sl 46 n (l.map At.d), .int .u32 x, .int .u32 y, .bool s] = some [.bool (good l s x y)] := by
  refine s_gatepathlaw41_right 0 _ _ _ _ _ ?_
  unfold gatepathlaw41_right good badS doubtH notH
  rcases hopF_vals l x y with h | h | h <;> cases s <;> simp (disch := omega) only [decide_true, decide_false, if_true, if_false, Bool.false_eq_true, Bool.true_eq_false, eq_self, Bool.true_or, Bool.false_or, Bool.true_and, Bool.false_and, Bool.or_true, Bool.or_false, Bool.and_true, Bool.and_false, List.getD_cons_zero, List.getD_cons_succ, cell_int, cell_bool, cell_str, cell_sl, cell_agg, i_int, b_bool, s_str, nb_sl, els_sl, nb_ov, els_ov, cs_pv, cs_agg, Int.toNat_natCast, toNat_sub1, toNat_add1, List.length_map, getD_map, ct, cf, beqd, bned, cp, cn, cnp, cnn, if_pos, if_neg, wrap64, Option.bind_some, Bool.not_true, Bool.not_false, List.isEmpty_nil, List.nil_append, List.length_nil, List.length_cons, Nat.zero_add, Hop_ok n l x y hl, hc, h, ne_eq, not_true_eq_false, not_false_eq_true] <;> rfl

/-- all goes down from here -/
def fl (l : List At) (s : Bool) : List Int → Bool
  | x :: y :: t => good l s y x && fl l s (y :: t)
  | _ => true

/-- all goes up, over n hops from place i on -/
def ru (l : List At) (s : Bool) (a : List Int) (i : Nat) : Nat → Bool
  | 0 => true
  | n + 1 => good l s (a.getD i 0) (a.getD (i + 1) 0) && ru l s a (i + 1) n

theorem ru_iff (l : List At) (s : Bool) (a : List Int) : ∀ (n i : Nat), ru l s a i n = true ↔ ∀ j, j < n → good l s (a.getD (i + j) 0) (a.getD (i + j + 1) 0) = true
  | 0, i => by simp [ru]
  | n + 1, i => by
    rw [ru, Bool.and_eq_true, ru_iff l s a n (i + 1)]
    constructor
    · rintro ⟨h1, h2⟩ j hj
      cases j with
      | zero => exact h1
      | succ j => have := h2 j (by omega); rwa [show i + 1 + j = i + (j + 1) by omega] at this
    · intro h
      refine ⟨h 0 (by omega), fun j hj => ?_⟩
      have := h (j + 1) (by omega)
      rwa [show i + (j + 1) = i + 1 + j by omega] at this

theorem cF_iff (l : List At) (s : Bool) : ∀ (a : List Int) (t : Nat), t < a.length → (t + 1 ≤ cF l (badS s) a ↔ ∀ j, j < t → good l s (a.getD j 0) (a.getD (j + 1) 0) = true)
  | [x], t, h => by
    simp at h; subst h; simp [cF]
  | x :: y :: r, t, h => by
    rw [cF]
    cases t with
    | zero =>
      constructor
      · intro _ j hj; omega
      · intro _; split <;> omega
    | succ t =>
      have ih := cF_iff l s (y :: r) t (by simpa using h)
      by_cases h1 : badS s (hopF l x y) = true
      · rw [if_pos h1]
        constructor
        · intro h2; omega
        · intro h2
          have := h2 0 (by omega)
          simp [good, h1] at this
      · rw [if_neg h1]
        have : t + 1 + 1 ≤ cF l (badS s) (y :: r) + 1 ↔ t + 1 ≤ cF l (badS s) (y :: r) := by omega
        rw [this, ih]
        constructor
        · intro h2 j hj
          cases j with
          | zero => simp only [List.getD_cons_zero, List.getD_cons_succ]; simpa [good] using h1
          | succ j => simpa using h2 j (by omega)
        · intro h2 j hj
          simpa using h2 (j + 1) (by omega)

theorem fl_iff (l : List At) (s : Bool) : ∀ (a : List Int), fl l s a = true ↔ ∀ j, j + 1 < a.length → good l s (a.getD (j + 1) 0) (a.getD j 0) = true
  | [] => by simp [fl]
  | [x] => by simp [fl]
  | x :: y :: r => by
    rw [fl, Bool.and_eq_true, fl_iff l s (y :: r)]
    constructor
    · rintro ⟨h1, h2⟩ j hj
      cases j with
      | zero => exact h1
      | succ j => simpa using h2 j (by simpa using hj)
    · intro h
      refine ⟨h 0 (by simp), fun j hj => ?_⟩
      simpa using h (j + 1) (by simpa using hj)

theorem rev_getD (a : List Int) (j : Nat) (h : j < a.length) : a.reverse.getD j 0 = a.getD (a.length - 1 - j) 0 := by
  simp [List.getD_eq_getElem?_getD, List.getElem?_reverse h]

theorem fl_cF (l : List At) (s : Bool) (a : List Int) (f : Nat) (hf : f < a.length) : fl l s (a.drop f) = true ↔ a.length - f ≤ cF l (badS s) a.reverse := by
  have := cF_iff l s a.reverse (a.length - f - 1) (by simp; omega)
  rw [show a.length - f - 1 + 1 = a.length - f by omega] at this
  rw [this, fl_iff]
  have hd : ∀ j, (a.drop f).getD j 0 = a.getD (f + j) 0 := fun j => by simp [List.getD_eq_getElem?_getD]
  simp only [hd, List.length_drop]
  constructor
  · intro h j hj
    have := h (a.length - f - 2 - j) (by omega)
    rw [rev_getD a j (by omega), rev_getD a (j + 1) (by omega)]
    rwa [show f + (a.length - f - 2 - j + 1) = a.length - 1 - j by omega, show f + (a.length - f - 2 - j) = a.length - 1 - (j + 1) by omega] at this
  · intro h j hj
    have := h (a.length - f - 2 - j) (by omega)
    rw [rev_getD a _ (by omega), rev_getD a _ (by omega)] at this
    rwa [show a.length - 1 - (a.length - f - 2 - j) = f + (j + 1) by omega, show a.length - 1 - (a.length - f - 2 - j + 1) = f + j by omega] at this

theorem cF_pos (l : List At) (b : Int → Bool) : ∀ (a : List Int), 0 < a.length → 0 < cF l b a
  | [x], _ => by simp [cF]
  | x :: y :: r, _ => by rw [cF]; split <;> omega

def shapeF (l : List At) (s : Bool) (a : List Int) : Bool := decide (0 < a.length ∧ a.length ≤ cF l (badS s) a + cF l (badS s) a.reverse)

theorem shape_iff (l : List At) (s : Bool) (a : List Int) : (∃ t, t < a.length ∧ ru l s a 0 t = true ∧ ∃ f, f ≤ t + 1 ∧ f < a.length ∧ fl l s (a.drop f) = true) ↔ shapeF l s a = true := by
  unfold shapeF
  rw [decide_eq_true_eq]
  have hr : ∀ t, t < a.length → (ru l s a 0 t = true ↔ t + 1 ≤ cF l (badS s) a) := fun t ht => by
    rw [cF_iff l s a t ht, ru_iff]
    simp
  constructor
  · rintro ⟨t, h1, h2, f, h3, h4, h5⟩
    have := (hr t h1).1 h2
    have := (fl_cF l s a f h4).1 h5
    omega
  · rintro ⟨h1, h2⟩
    have p1 := cF_pos l (badS s) a h1
    have p2 := cF_pos l (badS s) a.reverse (by simpa using h1)
    have p3 := cF_le l (badS s) a
    exact ⟨cF l (badS s) a - 1, by omega, (hr _ (by omega)).2 (by omega), a.length - cF l (badS s) a.reverse, by omega, by omega, (fl_cF l s a _ (by omega)).2 (by omega)⟩

open Classical in
theorem shaped_ok (n m : Bool) (l : List At) (s : Bool) (a : List Int) (hl : Fine l) (hc : checkF l = 0) (ha : a.length ≤ 100) :
    Cl ty tab 27 [.sl 46 n (l.map At.d), .sl 23 m (U a), .bool s] = some [.bool (shapeF l s a)] := by
  obtain ⟨k, hk⟩ := rounds
  refine s_gatepathlaw41_shaped k _ _ _ _ _ ?_
  unfold gatepathlaw41_shaped
  have rt := fun x y => right_ok n l s x y hl hc
  have gd : ∀ i (h : i < a.length), a.getD i 0 = a[i] := fun i h => by simp [List.getD_eq_getElem?_getD, h]
  have h3 : ∀ (t f : Nat) (r : Bool) (i0 : Int) (ag7 : List D → Option (List D)), f < a.length → iter k (gatepathlaw41_shaped.b3 (Cl ty tab) k n (l.map At.d) (U a) s ag7 [.bool r, .int .i64 i0] [.int .i64 f]) [.bool true, .int .i64 f] = if r = true ∧ fl l s (a.drop f) = true then some [.bool true] else ag7 [.int .i64 (f + 1 : Nat)] := by
    intro t f r i0 ag7 hf
    have := iter_wf (F := gatepathlaw41_shaped.b3 (Cl ty tab) k n (l.map At.d) (U a) s ag7 [.bool r, .int .i64 i0] [.int .i64 f]) (σ := Bool × Nat) (fun q => [.bool q.1, .int .i64 q.2]) (fun q => if r = true ∧ (q.1 && fl l s (a.drop q.2)) = true then some [.bool true] else ag7 [.int .i64 (f + 1 : Nat)]) (fun q => a.length - q.2) (fun q => q.2 < a.length) (fun q hq again hag => ?_) k (true, f) hf (by omega)
    · simpa using this
    · obtain ⟨g, i⟩ := q
      simp only at hq hag
      unfold gatepathlaw41_shaped.b3
      by_cases hlt : i + 1 < a.length
      · rw [drop2 hlt, fl]
        rw [← List.drop_eq_getElem_cons hlt]
        cases g with
        | true =>
          have := hag (good l s a[i + 1] a[i], i + 1) (by simp only; omega) (by simp only; omega)
          simp (disch := omega) only [decide_true, decide_false, if_true, if_false, Bool.false_eq_true, Bool.true_eq_false, eq_self, Bool.true_or, Bool.false_or, Bool.true_and, Bool.false_and, Bool.or_true, Bool.or_false, Bool.and_true, Bool.and_false, List.getD_cons_zero, List.getD_cons_succ, cell_int, cell_bool, cell_str, cell_sl, cell_agg, i_int, b_bool, s_str, nb_sl, els_sl, nb_ov, els_ov, cs_pv, cs_agg, Int.toNat_natCast, toNat_sub1, toNat_add1, List.length_map, getD_map, ct, cf, beqd, bned, cp, cn, cnp, cnn, if_pos, if_neg, wrap64, Option.bind_some, Bool.not_true, Bool.not_false, List.isEmpty_nil, List.nil_append, List.length_nil, List.length_cons, Nat.zero_add, rt, Int.natCast_add, Int.natCast_one] at this ⊢
          exact this
        | false =>
          have := hag (false, i + 1) (by simp only; omega) (by simp only; omega)
          simp (disch := omega) only [decide_true, decide_false, if_true, if_false, Bool.false_eq_true, Bool.true_eq_false, eq_self, Bool.true_or, Bool.false_or, Bool.true_and, Bool.false_and, Bool.or_true, Bool.or_false, Bool.and_true, Bool.and_false, List.getD_cons_zero, List.getD_cons_succ, cell_int, cell_bool, cell_str, cell_sl, cell_agg, i_int, b_bool, s_str, nb_sl, els_sl, nb_ov, els_ov, cs_pv, cs_agg, Int.toNat_natCast, toNat_sub1, toNat_add1, List.length_map, getD_map, ct, cf, beqd, bned, cp, cn, cnp, cnn, if_pos, if_neg, wrap64, Option.bind_some, Bool.not_true, Bool.not_false, List.isEmpty_nil, List.nil_append, List.length_nil, List.length_cons, Nat.zero_add, Int.natCast_add, Int.natCast_one] at this ⊢
          exact this
      · have e : a.drop i = [a[i]] := by rw [List.drop_eq_getElem_cons hq, List.drop_eq_nil_of_le (by omega)]
        rw [e, fl]
        · cases r <;> cases g <;> simp (disch := omega) only [decide_true, decide_false, if_true, if_false, Bool.false_eq_true, Bool.true_eq_false, eq_self, Bool.true_or, Bool.false_or, Bool.true_and, Bool.false_and, Bool.or_true, Bool.or_false, Bool.and_true, Bool.and_false, List.getD_cons_zero, List.getD_cons_succ, cell_int, cell_bool, cell_str, cell_sl, cell_agg, i_int, b_bool, s_str, nb_sl, els_sl, nb_ov, els_ov, cs_pv, cs_agg, Int.toNat_natCast, toNat_sub1, toNat_add1, List.length_map, getD_map, ct, cf, beqd, bned, cp, cn, cnp, cnn, if_pos, if_neg, wrap64, Option.bind_some, Bool.not_true, Bool.not_false, List.isEmpty_nil, List.nil_append, List.length_nil, List.length_cons, Nat.zero_add, Int.natCast_add, Int.natCast_one, and_self, false_and, and_false, true_and]
        · simp
  have h2 : ∀ (t : Nat) (r : Bool) (i0 : Int) (ag2 : List D → Option (List D)), t < a.length → iter k (gatepathlaw41_shaped.b2 (Cl ty tab) k n (l.map At.d) (U a) s ag2 [.int .i64 t] [.bool r, .int .i64 i0]) [.int .i64 0] = if r = true ∧ ∃ f, f ≤ t + 1 ∧ f < a.length ∧ fl l s (a.drop f) = true then some [.bool true] else ag2 [.int .i64 (t + 1 : Nat)] := by
    intro t r i0 ag2 ht
    have := iter_wf (F := gatepathlaw41_shaped.b2 (Cl ty tab) k n (l.map At.d) (U a) s ag2 [.int .i64 t] [.bool r, .int .i64 i0]) (σ := Nat) (fun q => [.int .i64 q]) (fun q => if r = true ∧ ∃ f, q ≤ f ∧ f ≤ t + 1 ∧ f < a.length ∧ fl l s (a.drop f) = true then some [.bool true] else ag2 [.int .i64 (t + 1 : Nat)]) (fun q => a.length + 1 - q) (fun q => q ≤ a.length + 1) (fun q hq again hag => ?_) k 0 (by omega) (by omega)
    · simpa using this
    · unfold gatepathlaw41_shaped.b2
      by_cases c1 : q ≤ t + 1
      · by_cases c2 : q < a.length
        · simp (disch := omega) only [decide_true, decide_false, if_true, if_false, Bool.false_eq_true, Bool.true_eq_false, eq_self, Bool.true_or, Bool.false_or, Bool.true_and, Bool.false_and, Bool.or_true, Bool.or_false, Bool.and_true, Bool.and_false, List.getD_cons_zero, List.getD_cons_succ, cell_int, cell_bool, cell_str, cell_sl, cell_agg, i_int, b_bool, s_str, nb_sl, els_sl, nb_ov, els_ov, cs_pv, cs_agg, Int.toNat_natCast, toNat_sub1, toNat_add1, List.length_map, getD_map, ct, cf, beqd, bned, cp, cn, cnp, cnn, if_pos, if_neg, wrap64, Option.bind_some, Bool.not_true, Bool.not_false, List.isEmpty_nil, List.nil_append, List.length_nil, List.length_cons, Nat.zero_add, h3 t q r i0 again c2]
          rw [hag (q + 1) (by omega) (by omega)]
          by_cases c3 : r = true ∧ fl l s (a.drop q) = true
          · rw [if_pos c3, if_pos ⟨c3.1, q, Nat.le_refl _, c1, c2, c3.2⟩]
          · rw [if_neg c3]
            congr 1
            refine propext ⟨fun ⟨x1, f, x2, x3⟩ => ⟨x1, f, by omega, x3⟩, fun ⟨x1, f, x2, x3, x4, x5⟩ => ⟨x1, f, ?_, x3, x4, x5⟩⟩
            rcases Nat.lt_or_ge q f with h | h
            · exact h
            · have : f = q := by omega
              subst this
              exact absurd ⟨x1, x5⟩ c3
        · rw [if_neg (fun ⟨_, f, x2, x3, x4, _⟩ => by omega)]
          simp (disch := omega) only [decide_true, decide_false, if_true, if_false, Bool.false_eq_true, Bool.true_eq_false, eq_self, Bool.true_or, Bool.false_or, Bool.true_and, Bool.false_and, Bool.or_true, Bool.or_false, Bool.and_true, Bool.and_false, List.getD_cons_zero, List.getD_cons_succ, cell_int, cell_bool, cell_str, cell_sl, cell_agg, i_int, b_bool, s_str, nb_sl, els_sl, nb_ov, els_ov, cs_pv, cs_agg, Int.toNat_natCast, toNat_sub1, toNat_add1, List.length_map, getD_map, ct, cf, beqd, bned, cp, cn, cnp, cnn, if_pos, if_neg, wrap64, Option.bind_some, Bool.not_true, Bool.not_false, List.isEmpty_nil, List.nil_append, List.length_nil, List.length_cons, Nat.zero_add, Int.natCast_add, Int.natCast_one]
      · rw [if_neg (fun ⟨_, f, x2, x3, x4, _⟩ => by omega)]
        simp (disch := omega) only [decide_true, decide_false, if_true, if_false, Bool.false_eq_true, Bool.true_eq_false, eq_self, Bool.true_or, Bool.false_or, Bool.true_and, Bool.false_and, Bool.or_true, Bool.or_false, Bool.and_true, Bool.and_false, List.getD_cons_zero, List.getD_cons_succ, cell_int, cell_bool, cell_str, cell_sl, cell_agg, i_int, b_bool, s_str, nb_sl, els_sl, nb_ov, els_ov, cs_pv, cs_agg, Int.toNat_natCast, toNat_sub1, toNat_add1, List.length_map, getD_map, ct, cf, beqd, bned, cp, cn, cnp, cnn, if_pos, if_neg, wrap64, Option.bind_some, Bool.not_true, Bool.not_false, List.isEmpty_nil, List.nil_append, List.length_nil, List.length_cons, Nat.zero_add, Int.natCast_add, Int.natCast_one]
  have h1 : ∀ (t : Nat) (ag2 : List D → Option (List D)), t < a.length → iter k (gatepathlaw41_shaped.b1 (Cl ty tab) k n (l.map At.d) (U a) s ag2 [.int .i64 t]) [.bool true, .int .i64 0] = if ru l s a 0 t = true ∧ ∃ f, f ≤ t + 1 ∧ f < a.length ∧ fl l s (a.drop f) = true then some [.bool true] else ag2 [.int .i64 (t + 1 : Nat)] := by
    intro t ag2 ht
    have := iter_wf (F := gatepathlaw41_shaped.b1 (Cl ty tab) k n (l.map At.d) (U a) s ag2 [.int .i64 t]) (σ := Bool × Nat) (fun q => [.bool q.1, .int .i64 q.2]) (fun q => if (q.1 && ru l s a q.2 (t - q.2)) = true ∧ ∃ f, f ≤ t + 1 ∧ f < a.length ∧ fl l s (a.drop f) = true then some [.bool true] else ag2 [.int .i64 (t + 1 : Nat)]) (fun q => t - q.2) (fun q => q.2 ≤ t) (fun q hq again hag => ?_) k (true, 0) (Nat.zero_le _) (by simp only; omega)
    · simpa using this
    · obtain ⟨g, i⟩ := q
      simp only at hq hag
      unfold gatepathlaw41_shaped.b1
      by_cases hlt : i < t
      · rw [show t - i = (t - (i + 1)) + 1 by omega, ru, gd i (by omega), gd (i + 1) (by omega)]
        cases g with
        | true =>
          have := hag (good l s a[i] a[i + 1], i + 1) (by simp only; omega) (by simp only; omega)
          simp (disch := omega) only [decide_true, decide_false, if_true, if_false, Bool.false_eq_true, Bool.true_eq_false, eq_self, Bool.true_or, Bool.false_or, Bool.true_and, Bool.false_and, Bool.or_true, Bool.or_false, Bool.and_true, Bool.and_false, List.getD_cons_zero, List.getD_cons_succ, cell_int, cell_bool, cell_str, cell_sl, cell_agg, i_int, b_bool, s_str, nb_sl, els_sl, nb_ov, els_ov, cs_pv, cs_agg, Int.toNat_natCast, toNat_sub1, toNat_add1, List.length_map, getD_map, ct, cf, beqd, bned, cp, cn, cnp, cnn, if_pos, if_neg, wrap64, Option.bind_some, Bool.not_true, Bool.not_false, List.isEmpty_nil, List.nil_append, List.length_nil, List.length_cons, Nat.zero_add, rt, Int.natCast_add, Int.natCast_one] at this ⊢
          exact this
        | false =>
          have := hag (false, i + 1) (by simp only; omega) (by simp only; omega)
          simp (disch := omega) only [decide_true, decide_false, if_true, if_false, Bool.false_eq_true, Bool.true_eq_false, eq_self, Bool.true_or, Bool.false_or, Bool.true_and, Bool.false_and, Bool.or_true, Bool.or_false, Bool.and_true, Bool.and_false, List.getD_cons_zero, List.getD_cons_succ, cell_int, cell_bool, cell_str, cell_sl, cell_agg, i_int, b_bool, s_str, nb_sl, els_sl, nb_ov, els_ov, cs_pv, cs_agg, Int.toNat_natCast, toNat_sub1, toNat_add1, List.length_map, getD_map, ct, cf, beqd, bned, cp, cn, cnp, cnn, if_pos, if_neg, wrap64, Option.bind_some, Bool.not_true, Bool.not_false, List.isEmpty_nil, List.nil_append, List.length_nil, List.length_cons, Nat.zero_add, Int.natCast_add, Int.natCast_one] at this ⊢
          exact this
      · have e : i = t := by omega
        subst e
        rw [Nat.sub_self, ru]
        simp (disch := omega) only [decide_true, decide_false, if_true, if_false, Bool.false_eq_true, Bool.true_eq_false, eq_self, Bool.true_or, Bool.false_or, Bool.true_and, Bool.false_and, Bool.or_true, Bool.or_false, Bool.and_true, Bool.and_false, List.getD_cons_zero, List.getD_cons_succ, cell_int, cell_bool, cell_str, cell_sl, cell_agg, i_int, b_bool, s_str, nb_sl, els_sl, nb_ov, els_ov, cs_pv, cs_agg, Int.toNat_natCast, toNat_sub1, toNat_add1, List.length_map, getD_map, ct, cf, beqd, bned, cp, cn, cnp, cnn, if_pos, if_neg, wrap64, Option.bind_some, Bool.not_true, Bool.not_false, List.isEmpty_nil, List.nil_append, List.length_nil, List.length_cons, Nat.zero_add, h2 i g i ag2 ht]
  have h0 := iter_ix (F := gatepathlaw41_shaped.b0 (Cl ty tab) k n (l.map At.d) (U a) s) a.length (fun i => [.int .i64 i]) (fun i => if ∃ t, i ≤ t ∧ t < a.length ∧ ru l s a 0 t = true ∧ ∃ f, f ≤ t + 1 ∧ f < a.length ∧ fl l s (a.drop f) = true then some [.bool true] else some [.bool false]) (fun i hi again hag => ?_) (fun again => ?_) k (by omega) 0 (by omega)
  · simp only [Int.natCast_zero] at h0
    refine h0.trans ?_
    have e := shape_iff l s a
    by_cases hs : shapeF l s a = true
    · rw [hs, if_pos]
      obtain ⟨t, q1, q2⟩ := e.2 hs
      exact ⟨t, Nat.zero_le _, q1, q2⟩
    · rw [if_neg (fun ⟨t, _, q1, q2⟩ => hs (e.1 ⟨t, q1, q2⟩))]
      simpa using hs
  · unfold gatepathlaw41_shaped.b0
    simp (disch := omega) only [decide_true, decide_false, if_true, if_false, Bool.false_eq_true, Bool.true_eq_false, eq_self, Bool.true_or, Bool.false_or, Bool.true_and, Bool.false_and, Bool.or_true, Bool.or_false, Bool.and_true, Bool.and_false, List.getD_cons_zero, List.getD_cons_succ, cell_int, cell_bool, cell_str, cell_sl, cell_agg, i_int, b_bool, s_str, nb_sl, els_sl, nb_ov, els_ov, cs_pv, cs_agg, Int.toNat_natCast, toNat_sub1, toNat_add1, List.length_map, getD_map, ct, cf, beqd, bned, cp, cn, cnp, cnn, if_pos, if_neg, wrap64, Option.bind_some, Bool.not_true, Bool.not_false, List.isEmpty_nil, List.nil_append, List.length_nil, List.length_cons, Nat.zero_add, h1 i again hi]
    rw [hag]
    by_cases c : ru l s a 0 i = true ∧ ∃ f, f ≤ i + 1 ∧ f < a.length ∧ fl l s (a.drop f) = true
    · rw [if_pos c, if_pos ⟨i, Nat.le_refl _, hi, c⟩]
    · rw [if_neg c]
      congr 1
      refine propext ⟨fun ⟨t, x1, x2⟩ => ⟨t, by omega, x2⟩, fun ⟨t, x1, x2, x3⟩ => ⟨t, ?_, x2, x3⟩⟩
      rcases Nat.lt_or_ge i t with h | h
      · exact h
      · have : t = i := by omega
        subst this
        exact absurd x3 c
  · unfold gatepathlaw41_shaped.b0
    rw [if_neg (fun ⟨t, x1, x2, _⟩ => by omega)]
    simp (disch := omega) only [decide_true, decide_false, if_true, if_false, Bool.false_eq_true, Bool.true_eq_false, eq_self, Bool.true_or, Bool.false_or, Bool.true_and, Bool.false_and, Bool.or_true, Bool.or_false, Bool.and_true, Bool.and_false, List.getD_cons_zero, List.getD_cons_succ, cell_int, cell_bool, cell_str, cell_sl, cell_agg, i_int, b_bool, s_str, nb_sl, els_sl, nb_ov, els_ov, cs_pv, cs_agg, Int.toNat_natCast, toNat_sub1, toNat_add1, List.length_map, getD_map, ct, cf, beqd, bned, cp, cn, cnp, cnn, if_pos, if_neg, wrap64, Option.bind_some, Bool.not_true, Bool.not_false, List.isEmpty_nil, List.nil_append, List.length_nil, List.length_cons, Nat.zero_add]

end Go.Proofs.Ytklbnnkdkkcgoaa.Own
