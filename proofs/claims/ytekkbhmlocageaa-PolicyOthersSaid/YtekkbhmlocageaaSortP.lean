import Derived.Test.YtekkbhmlocageaaG4
namespace Go.Proofs.Ytekkbhmlocageaa.GD
open Go
set_option linter.unusedVariables false
set_option linter.unusedSimpArgs false

/-- a loop: from every state that inv allows it ends with an answer that Q allows -/
theorem iter_q {R σ : Type} {F : List D → (List D → Option R) → Option R} (enc : σ → List D) (Q : R → Prop) (m : σ → Nat) (inv : σ → Prop)
    (step : ∀ s, inv s → ∀ again : List D → Option R, (∀ s', inv s' → m s' < m s → ∃ r, again (enc s') = some r ∧ Q r) → ∃ r, F (enc s) again = some r ∧ Q r) :
    ∀ (k : Nat) (s : σ), inv s → m s < k → ∃ r, iter k F (enc s) = some r ∧ Q r
  | 0, s, _, hk => by omega
  | k + 1, s, hs, hk => by
    unfold iter
    exact step s hs _ fun s' hs' hm => iter_q enc Q m inv step k s' hs' (by omega)

/-- the data -/
def mk (N : Nat) (f : Nat → Int) : List D := (List.range N).map fun x => D.int .i64 (f x)
theorem mk_length (N : Nat) (f : Nat → Int) : (mk N f).length = N := by simp [mk]
theorem mk_get {N i : Nat} (f : Nat → Int) (h : i < N) : (mk N f).getD i .undef = D.int .i64 (f i) := by
  simp [mk, List.getD_eq_getElem?_getD, h]
def swap2 (f : Nat → Int) (i j : Nat) : Nat → Int := fun x => if x = i then f j else if x = j then f i else f x
theorem mk_swap (N i j : Nat) (f : Nat → Int) : ((mk N f).set i (D.int .i64 (f j))).set j (D.int .i64 (f i)) = mk N (swap2 f i j) := by
  apply List.ext_getElem
  · simp [mk]
  · intro n h1 h2
    simp only [mk, List.length_set, List.length_map, List.length_range] at h1 h2
    simp only [mk, swap2, List.getElem_set, List.getElem_map, List.getElem_range]
    by_cases e1 : n = i
    · by_cases e2 : n = j
      · have : i = j := by omega
        simp [e1, e2, this]
      · simp [e1, e2, show ¬ j = n by omega, show ¬ j = i by omega]
    · by_cases e2 : n = j
      · simp [e1, e2, show ¬ i = n by omega, show ¬ j = i by omega]
      · simp [e1, e2, show ¬ i = n by omega, show ¬ j = n by omega]
theorem mk_congr {N : Nat} {f g : Nat → Int} (h : ∀ x, x < N → f x = g x) : mk N f = mk N g := by
  unfold mk
  apply List.map_congr_left
  intro x hx
  rw [h x (List.mem_range.1 hx)]
theorem mk_of (l : List Int) : l.map (D.int .i64) = mk l.length (fun x => l.getD x 0) := by
  apply List.ext_getElem
  · simp [mk]
  · intro n h1 h2
    simp only [List.length_map] at h1
    simp [mk, List.getD_eq_getElem?_getD, h1]

theorem wrap_u64s (n : Int) : IntKind.u64.wrap n = n % 18446744073709551616 := by
  simp [IntKind.wrap, IntKind.bits, IntKind.signed]
/-- half of a sum, as the code takes it -/
theorem half_sum {i j : Nat} (h : i + j < 9223372036854775808) : IntKind.i64.wrap (Int.fdiv (IntKind.u64.wrap (IntKind.i64.wrap ((i : Int) + (j : Int)))) (2 ^ 1)) = (((i + j) / 2 : Nat) : Int) := by
  have e : IntKind.i64.wrap ((i : Int) + (j : Int)) = (i : Int) + j := wrap64 (by omega) (by omega)
  rw [e, show IntKind.u64.wrap ((i : Int) + j) = ((i + j : Nat) : Int) by rw [wrap_u64s]; omega]
  rw [show Int.fdiv ((i + j : Nat) : Int) (2 ^ 1) = (((i + j) / 2 : Nat) : Int) by rw [Int.fdiv_eq_ediv_of_nonneg _ (by decide)]; omega]
  exact wrap64 (by omega) (by omega)

theorem half1 {i j : Nat} (h : i + j < 9223372036854775808) : Int.fdiv (IntKind.u64.wrap ((i : Int) + (j : Int))) (2 ^ 1) = (((i + j) / 2 : Nat) : Int) := by
  rw [show IntKind.u64.wrap ((i : Int) + j) = ((i + j : Nat) : Int) by rw [wrap_u64s]; omega]
  rw [Int.fdiv_eq_ediv_of_nonneg _ (by decide)]; omega
theorem toNat_add (m n : Nat) : ((m : Int) + (n : Int)).toNat = m + n := by omega

/-- g is f with the places from a to b exchanged among them -/
def Seg (a b : Nat) (f g : Nat → Int) : Prop :=
  ∃ s t : Nat → Nat, (∀ x, s (t x) = x) ∧ (∀ x, t (s x) = x) ∧ (∀ x, x < a ∨ b ≤ x → s x = x) ∧ ∀ x, g x = f (s x)
theorem Seg.refl (a b : Nat) (f : Nat → Int) : Seg a b f f := ⟨id, id, fun _ => rfl, fun _ => rfl, fun _ _ => rfl, fun _ => rfl⟩
theorem Seg.trans {a b : Nat} {f g h : Nat → Int} : Seg a b f g → Seg a b g h → Seg a b f h := by
  rintro ⟨s1, t1, p1, q1, o1, e1⟩ ⟨s2, t2, p2, q2, o2, e2⟩
  refine ⟨fun x => s1 (s2 x), fun x => t2 (t1 x), fun x => by simp [p1, p2], fun x => by simp [q1, q2], fun x hx => ?_, fun x => by rw [e2, e1]⟩
  show s1 (s2 x) = x
  rw [o2 x hx, o1 x hx]
theorem Seg.mono {a b a' b' : Nat} {f g : Nat → Int} (ha : a' ≤ a) (hb : b ≤ b') : Seg a b f g → Seg a' b' f g := by
  rintro ⟨s1, t1, p1, q1, o1, e1⟩
  exact ⟨s1, t1, p1, q1, fun x hx => o1 x (by omega), e1⟩
theorem Seg.out {a b : Nat} {f g : Nat → Int} (h : Seg a b f g) {x : Nat} (hx : x < a ∨ b ≤ x) : g x = f x := by
  obtain ⟨s, t, p, q, o, e⟩ := h
  rw [e, o x hx]
theorem Seg.ins {a b : Nat} {f g : Nat → Int} (h : Seg a b f g) {x : Nat} (h1 : a ≤ x) (h2 : x < b) : ∃ y, a ≤ y ∧ y < b ∧ g x = f y := by
  obtain ⟨s, t, p, q, o, e⟩ := h
  have : ¬ (s x < a ∨ b ≤ s x) := fun hh => by
    have e1 := o (s x) hh
    have e2 := q (s x)
    rw [e1, q x] at e2
    omega
  exact ⟨s x, by omega, by omega, e x⟩
theorem Seg.inv {a b : Nat} {f g : Nat → Int} (h : Seg a b f g) {y : Nat} (h1 : a ≤ y) (h2 : y < b) : ∃ x, a ≤ x ∧ x < b ∧ g x = f y := by
  obtain ⟨s, t, p, q, o, e⟩ := h
  have : ¬ (t y < a ∨ b ≤ t y) := fun hh => by
    have e1 := o (t y) hh
    rw [p y] at e1
    omega
  exact ⟨t y, by omega, by omega, by rw [e, p]⟩
theorem Seg.swap {a b i j : Nat} (f : Nat → Int) (hi : a ≤ i ∧ i < b) (hj : a ≤ j ∧ j < b) : Seg a b f (swap2 f i j) := by
  refine ⟨fun x => if x = i then j else if x = j then i else x, fun x => if x = i then j else if x = j then i else x, fun x => ?_, fun x => ?_, fun x hx => ?_, fun x => ?_⟩
  · dsimp only; split <;> (try split) <;> (try split) <;> omega
  · dsimp only; split <;> (try split) <;> (try split) <;> omega
  · dsimp only; rw [if_neg (by omega), if_neg (by omega)]
  · unfold swap2; dsimp only; split
    · rfl
    · split <;> rfl
theorem Seg.eq {a b : Nat} {f g g' : Nat → Int} (h : Seg a b f g) (e : ∀ x, g' x = g x) : Seg a b f g' := by
  obtain ⟨s, t, p, q, o, e1⟩ := h
  exact ⟨s, t, p, q, o, fun x => by rw [e, e1]⟩

/-- n places from a on exchanged with those from m on -/
def swp (a m n : Nat) (f : Nat → Int) : Nat → Int := fun x => if a ≤ x ∧ x < a + n then f (x + (m - a)) else if m ≤ x ∧ x < m + n then f (x - (m - a)) else f x
theorem swp_zero (a m : Nat) (f : Nat → Int) : swp a m 0 f = f := by
  funext x; unfold swp; rw [if_neg (by omega), if_neg (by omega)]
theorem swp_succ {a m n : Nat} (f : Nat → Int) (h : a + n < m) : swap2 (swp a m n f) (a + n) (m + n) = swp a m (n + 1) f := by
  have e1 : swp a m n f (a + n) = f (a + n) := by unfold swp; rw [if_neg (by omega), if_neg (by omega)]
  have e2 : swp a m n f (m + n) = f (m + n) := by unfold swp; rw [if_neg (by omega), if_neg (by omega)]
  funext x
  unfold swap2
  rw [e1, e2]
  by_cases h1 : x = a + n
  · rw [if_pos h1]; unfold swp; rw [if_pos (by omega)]; congr 1; omega
  · rw [if_neg h1]
    by_cases h2 : x = m + n
    · rw [if_pos h2]; unfold swp; rw [if_neg (by omega), if_pos (by omega)]; congr 1; omega
    · rw [if_neg h2]
      unfold swp
      by_cases h3 : a ≤ x ∧ x < a + n
      · rw [if_pos h3, if_pos (by omega)]
      · rw [if_neg h3, if_neg (c := a ≤ x ∧ x < a + (n + 1)) (by omega)]
        by_cases h4 : m ≤ x ∧ x < m + n
        · rw [if_pos h4, if_pos (by omega)]
        · rw [if_neg h4, if_neg (by omega)]
theorem Seg.swp {lo hi a m : Nat} (f : Nat → Int) : ∀ n, a + n ≤ m → lo ≤ a → m + n ≤ hi → Seg lo hi f (swp a m n f)
  | 0, _, _, _ => by rw [swp_zero]; exact Seg.refl _ _ _
  | n + 1, h1, h2, h3 => by
    rw [← swp_succ f (by omega)]
    exact (Seg.swp f n (by omega) h2 (by omega)).trans (Seg.swap _ (by omega) (by omega))

/-- the places from a to m put behind those from m to b -/
def rot (a m b : Nat) (f : Nat → Int) : Nat → Int := fun x => if x < a ∨ b ≤ x then f x else if x < a + (b - m) then f (x + (m - a)) else f (x - (b - m))
theorem rot_left {a m b : Nat} {f : Nat → Int} (h : m ≤ a) (h2 : a ≤ m) : rot a m b f = f := by
  funext x; unfold rot
  split
  · rfl
  · split
    · congr 1; omega
    · omega
theorem rot_right {a m b : Nat} {f : Nat → Int} (h : b ≤ m) (h2 : m ≤ b) : rot a m b f = f := by
  funext x; unfold rot
  split
  · rfl
  · split
    · omega
    · congr 1; omega
theorem Seg.rot {a m b : Nat} (f : Nat → Int) (h1 : a ≤ m) (h2 : m ≤ b) : Seg a b f (rot a m b f) := by
  refine ⟨fun x => if x < a ∨ b ≤ x then x else if x < a + (b - m) then x + (m - a) else x - (b - m), fun x => if x < a ∨ b ≤ x then x else if x < m then x + (b - m) else x - (m - a), fun x => ?_, fun x => ?_, fun x hx => ?_, fun x => ?_⟩
  · dsimp only; split <;> (try split) <;> (try split) <;> (try split) <;> omega
  · dsimp only; split <;> (try split) <;> (try split) <;> (try split) <;> omega
  · dsimp only; rw [if_pos hx]
  · unfold Go.Proofs.Ytekkbhmlocageaa.GD.rot; dsimp only; split
    · rfl
    · split <;> rfl
theorem Seg.all {a b N : Nat} {f g : Nat → Int} (h : Seg a b f g) (hb : b ≤ N) {V : Int → Prop} (hf : ∀ x, x < N → V (f x)) (x : Nat) (hx : x < N) : V (g x) := by
  by_cases hh : x < a ∨ b ≤ x
  · rw [h.out hh]; exact hf x hx
  · obtain ⟨y, _, h2, e⟩ := h.ins (x := x) (by omega) (by omega)
    rw [e]; exact hf y (by omega)
/-- one element further right -/
theorem rot_up {a k : Nat} (f : Nat → Int) (h : a ≤ k) : swap2 (rot a (a + 1) (k + 1) f) k (k + 1) = rot a (a + 1) (k + 2) f := by
  have e1 : rot a (a + 1) (k + 1) f k = f a := by
    unfold rot; rw [if_neg (by omega), if_neg (by omega)]; congr 1; omega
  have e2 : rot a (a + 1) (k + 1) f (k + 1) = f (k + 1) := by unfold rot; rw [if_pos (by omega)]
  funext x
  unfold swap2
  rw [e1, e2]
  by_cases h1 : x = k
  · rw [if_pos h1]; unfold rot; rw [if_neg (by omega), if_pos (by omega)]; congr 1; omega
  · rw [if_neg h1]
    by_cases h2 : x = k + 1
    · rw [if_pos h2]; unfold rot; rw [if_neg (by omega), if_neg (by omega)]; congr 1; omega
    · rw [if_neg h2]; unfold rot
      by_cases h3 : x < a ∨ k + 1 ≤ x
      · rw [if_pos h3, if_pos (by omega)]
      · rw [if_neg h3, if_neg (c := x < a ∨ k + 2 ≤ x) (by omega), if_pos (by omega), if_pos (by omega)]
/-- one element further left -/
theorem rot_down {k m : Nat} (f : Nat → Int) (h : k + 1 ≤ m) : swap2 (rot (k + 1) m (m + 1) f) (k + 1) k = rot k m (m + 1) f := by
  have e1 : rot (k + 1) m (m + 1) f (k + 1) = f m := by
    unfold rot; rw [if_neg (by omega), if_pos (by omega)]; congr 1; omega
  have e2 : rot (k + 1) m (m + 1) f k = f k := by unfold rot; rw [if_pos (by omega)]
  funext x
  unfold swap2
  rw [e1, e2]
  by_cases h1 : x = k + 1
  · rw [if_pos h1]; unfold rot; rw [if_neg (by omega), if_neg (by omega)]; congr 1; omega
  · rw [if_neg h1]
    by_cases h2 : x = k
    · rw [if_pos h2]; unfold rot; rw [if_neg (by omega), if_pos (by omega)]; congr 1; omega
    · rw [if_neg h2]; unfold rot
      by_cases h3 : x < k + 1 ∨ m + 1 ≤ x
      · rw [if_pos h3, if_pos (by omega)]
      · rw [if_neg h3, if_neg (c := x < k ∨ m + 1 ≤ x) (by omega), if_neg (by omega), if_neg (by omega)]
/-- a rotation by exchanges: the left part is longer -/
theorem rot_swpL {i j m : Nat} (f : Nat → Int) (h : j < i) (hi : i ≤ m) : rot (m - i) m (m + j) f = rot (m - (i - j)) m (m + j) (swp (m - i) m j f) := by
  funext x
  have ev : ∀ y, swp (m - i) m j f y = if m - i ≤ y ∧ y < m - i + j then f (y + (m - (m - i))) else if m ≤ y ∧ y < m + j then f (y - (m - (m - i))) else f y := fun y => rfl
  show (if x < m - i ∨ m + j ≤ x then f x else if x < m - i + (m + j - m) then f (x + (m - (m - i))) else f (x - (m + j - m))) = (if x < m - (i - j) ∨ m + j ≤ x then swp (m - i) m j f x else if x < m - (i - j) + (m + j - m) then swp (m - i) m j f (x + (m - (m - (i - j)))) else swp (m - i) m j f (x - (m + j - m)))
  simp only [ev]
  by_cases h1 : x < m - i ∨ m + j ≤ x
  · rw [if_pos h1, if_pos (by omega), if_neg (by omega), if_neg (by omega)]
  rw [if_neg h1]
  by_cases h2 : x < m - i + (m + j - m)
  · rw [if_pos h2, if_pos (by omega), if_pos (by omega)]
  rw [if_neg h2, if_neg (by omega)]
  by_cases h3 : x < m - (i - j) + (m + j - m)
  · rw [if_pos h3, if_neg (by omega), if_pos (by omega)]; congr 1; omega
  · rw [if_neg h3, if_neg (by omega), if_neg (by omega)]
theorem rot_swpR {i j m : Nat} (f : Nat → Int) (h : i < j) (hi : i ≤ m) : rot (m - i) m (m + j) f = rot (m - i) m (m + (j - i)) (swp (m - i) (m + j - i) i f) := by
  funext x
  have ev : ∀ y, swp (m - i) (m + j - i) i f y = if m - i ≤ y ∧ y < m - i + i then f (y + (m + j - i - (m - i))) else if m + j - i ≤ y ∧ y < m + j - i + i then f (y - (m + j - i - (m - i))) else f y := fun y => rfl
  show (if x < m - i ∨ m + j ≤ x then f x else if x < m - i + (m + j - m) then f (x + (m - (m - i))) else f (x - (m + j - m))) = (if x < m - i ∨ m + (j - i) ≤ x then swp (m - i) (m + j - i) i f x else if x < m - i + (m + (j - i) - m) then swp (m - i) (m + j - i) i f (x + (m - (m - i))) else swp (m - i) (m + j - i) i f (x - (m + (j - i) - m)))
  simp only [ev]
  by_cases h1 : x < m - i ∨ m + j ≤ x
  · rw [if_pos h1, if_pos (by omega), if_neg (by omega), if_neg (by omega)]
  rw [if_neg h1]
  by_cases h4 : m + (j - i) ≤ x
  · rw [if_neg (c := x < m - i + (m + j - m)) (by omega), if_pos (by omega), if_neg (by omega), if_pos (by omega)]; congr 1; omega
  rw [if_neg (c := x < m - i ∨ m + (j - i) ≤ x) (by omega)]
  by_cases h3 : x < m - i + (m + (j - i) - m)
  · rw [if_pos (by omega), if_pos h3, if_neg (by omega), if_neg (by omega)]
  · rw [if_pos (by omega), if_neg h3, if_pos (by omega)]; congr 1; omega
theorem rot_swpE {i m : Nat} (f : Nat → Int) (hi : i ≤ m) : rot (m - i) m (m + i) f = swp (m - i) m i f := by
  funext x
  unfold rot swp
  by_cases h1 : x < m - i ∨ m + i ≤ x
  · rw [if_pos h1, if_neg (by omega), if_neg (by omega)]
  rw [if_neg h1]
  by_cases h2 : x < m - i + (m + i - m)
  · rw [if_pos h2, if_pos (by omega)]
  · rw [if_neg h2, if_neg (by omega), if_pos (by omega)]; congr 1; omega

/-! the order -/
/-- a comparison that orders -/
structure Cmp (c : Int → Int → Int) : Prop where
  anti : ∀ a b, c b a = 0 - c a b
  tr : ∀ a b d, c a b ≤ 0 → c b d ≤ 0 → c a d = min (c a b) (c b d)
/-- before: less, or alike and with the smaller number -/
def Bef (c : Int → Int → Int) (a b : Int) : Prop := c a b < 0 ∨ c a b = 0 ∧ a < b
theorem Bef.trans {c : Int → Int → Int} (hc : Cmp c) {a b d : Int} (h1 : Bef c a b) (h2 : Bef c b d) : Bef c a d := by
  have := hc.tr a b d (by unfold Bef at h1; omega) (by unfold Bef at h2; omega)
  unfold Bef at *
  omega
theorem Bef.of_not {c : Int → Int → Int} (hc : Cmp c) {a b : Int} (h : ¬ c b a < 0) (hab : a < b) : Bef c a b := by
  have := hc.anti a b
  unfold Bef
  omega
theorem Bef.of_lt {c : Int → Int → Int} {a b : Int} (h : c a b < 0) : Bef c a b := .inl h
theorem Bef.not {c : Int → Int → Int} (hc : Cmp c) {a b : Int} (h : Bef c a b) : ¬ Bef c b a := by
  have := hc.anti a b
  unfold Bef at *
  omega
/-- the places from a to b are in order -/
def Srt (c : Int → Int → Int) (f : Nat → Int) (a b : Nat) : Prop := ∀ x y, a ≤ x → x < y → y < b → Bef c (f x) (f y)
/-- the one in front is not after -/
theorem Srt.le {c : Int → Int → Int} {f : Nat → Int} {a b : Nat} (h : Srt c f a b) {x y : Nat} (h1 : a ≤ x) (h2 : x ≤ y) (h3 : y < b) : f x = f y ∨ Bef c (f x) (f y) := by
  rcases Nat.lt_or_eq_of_le h2 with h4 | h4
  · exact .inr (h x y h1 h4 h3)
  · exact .inl (by rw [h4])
theorem Bef.lel {c : Int → Int → Int} (hc : Cmp c) {a b d : Int} (h1 : a = b ∨ Bef c a b) (h2 : Bef c b d) : Bef c a d := by
  rcases h1 with h | h
  · rw [h]; exact h2
  · exact h.trans hc h2
theorem Bef.ler {c : Int → Int → Int} (hc : Cmp c) {a b d : Int} (h1 : Bef c a b) (h2 : b = d ∨ Bef c b d) : Bef c a d := by
  rcases h2 with h | h
  · rw [← h]; exact h1
  · exact h1.trans hc h

/-- a rotation that puts all in order -/
theorem srt_rot {c : Int → Int → Int} {f : Nat → Int} {a s m e b : Nat} (h0 : a ≤ s) (h1 : s ≤ m) (h2 : m ≤ e) (h3 : e ≤ b) (L : Srt c f a m) (R : Srt c f m b)
    (A : ∀ x y, a ≤ x → x < s → m ≤ y → y < e → Bef c (f x) (f y)) (B : ∀ x y, m ≤ x → x < e → s ≤ y → y < m → Bef c (f x) (f y)) (C : ∀ x y, s ≤ x → x < m → e ≤ y → y < b → Bef c (f x) (f y))
    (O : ∀ x y, a ≤ x → x < s → e ≤ y → y < b → Bef c (f x) (f y)) : Srt c (rot s m e f) a b := by
  intro x y hx hxy hy
  have r1 : ∀ z, z < s ∨ e ≤ z → rot s m e f z = f z := fun z hz => by unfold rot; rw [if_pos hz]
  have r2 : ∀ z, s ≤ z → z < s + (e - m) → rot s m e f z = f (z + (m - s)) := fun z hz hz2 => by unfold rot; rw [if_neg (by omega), if_pos hz2]
  have r3 : ∀ z, s + (e - m) ≤ z → z < e → rot s m e f z = f (z - (e - m)) := fun z hz hz2 => by unfold rot; rw [if_neg (by omega), if_neg (by omega)]
  rcases Nat.lt_or_ge x s with c1 | c1
  · rw [r1 x (.inl c1)]
    rcases Nat.lt_or_ge y s with d1 | d1
    · rw [r1 y (.inl d1)]; exact L x y hx hxy (by omega)
    rcases Nat.lt_or_ge y (s + (e - m)) with d2 | d2
    · rw [r2 y d1 d2]; exact A _ _ hx c1 (by omega) (by omega)
    rcases Nat.lt_or_ge y e with d3 | d3
    · rw [r3 y d2 d3]; exact L _ _ hx (by omega) (by omega)
    · rw [r1 y (.inr d3)]; exact O _ _ hx c1 d3 hy
  rcases Nat.lt_or_ge x (s + (e - m)) with c2 | c2
  · rw [r2 x c1 c2]
    rcases Nat.lt_or_ge y (s + (e - m)) with d2 | d2
    · rw [r2 y (by omega) d2]; exact R _ _ (by omega) (by omega) (by omega)
    rcases Nat.lt_or_ge y e with d3 | d3
    · rw [r3 y d2 d3]; exact B _ _ (by omega) (by omega) (by omega) (by omega)
    · rw [r1 y (.inr d3)]; exact R _ _ (by omega) (by omega) hy
  rcases Nat.lt_or_ge x e with c3 | c3
  · rw [r3 x c2 c3]
    rcases Nat.lt_or_ge y e with d3 | d3
    · rw [r3 y (by omega) d3]; exact L _ _ (by omega) (by omega) (by omega)
    · rw [r1 y (.inr d3)]; exact C _ _ (by omega) (by omega) d3 hy
  · rw [r1 x (.inr c3), r1 y (.inr (by omega))]; exact R x y (by omega) hxy hy

/-- what a merge is given: two parts in order, the left one's numbers smaller -/
structure MPre (c : Int → Int → Int) (f : Nat → Int) (a m b : Nat) : Prop where
  l : Srt c f a m
  r : Srt c f m b
  x : ∀ x y, a ≤ x → x < m → m ≤ y → y < b → f x < f y

theorem rot1 {s m e z : Nat} (f : Nat → Int) (hz : z < s ∨ e ≤ z) : rot s m e f z = f z := by unfold rot; rw [if_pos hz]
theorem rot2 {s m e z : Nat} (f : Nat → Int) (h1 : s ≤ m) (h2 : m ≤ e) (hz : s ≤ z) (hz2 : z < s + (e - m)) : rot s m e f z = f (z + (m - s)) := by unfold rot; rw [if_neg (by omega), if_pos hz2]
theorem rot3 {s m e z : Nat} (f : Nat → Int) (h1 : s ≤ m) (h2 : m ≤ e) (hz : s + (e - m) ≤ z) (hz2 : z < e) : rot s m e f z = f (z - (e - m)) := by unfold rot; rw [if_neg (by omega), if_neg (by omega)]

/-- the left half of a symmetric merge -/
theorem MPre.left {c : Int → Int → Int} {f : Nat → Int} {a s m e b : Nat} (h : MPre c f a m b) (h0 : a ≤ s) (h1 : s ≤ m) (h2 : m ≤ e) (h3 : e ≤ b) : MPre c (rot s m e f) a s (s + (e - m)) where
  l x y hx hxy hy := by rw [rot1 f (.inl (by omega)), rot1 f (.inl hy)]; exact h.l x y hx hxy (by omega)
  r x y hx hxy hy := by rw [rot2 f h1 h2 hx (by omega), rot2 f h1 h2 (by omega) hy]; exact h.r _ _ (by omega) (by omega) (by omega)
  x x y hx hx2 hy hy2 := by rw [rot1 f (.inl hx2), rot2 f h1 h2 hy hy2]; exact h.x _ _ hx (by omega) (by omega) (by omega)
theorem MPre.right {c : Int → Int → Int} {f : Nat → Int} {a s m e b : Nat} (h : MPre c f a m b) (h0 : a ≤ s) (h1 : s ≤ m) (h2 : m ≤ e) (h3 : e ≤ b) : MPre c (rot s m e f) (s + (e - m)) e b where
  l x y hx hxy hy := by rw [rot3 f h1 h2 hx (by omega), rot3 f h1 h2 (by omega) hy]; exact h.l _ _ (by omega) (by omega) (by omega)
  r x y hx hxy hy := by rw [rot1 f (.inr hx), rot1 f (.inr (by omega))]; exact h.r _ _ (by omega) (by omega) (by omega)
  x x y hx hx2 hy hy2 := by rw [rot3 f h1 h2 hx hx2, rot1 f (.inr hy)]; exact h.x _ _ (by omega) (by omega) (by omega) (by omega)
/-- between the halves -/
theorem MPre.cross {c : Int → Int → Int} (hc : Cmp c) {f : Nat → Int} {a s m e b : Nat} (h : MPre c f a m b) (h0 : a ≤ s) (h1 : s ≤ m) (h2 : m ≤ e) (h3 : e ≤ b)
    (H1 : s = a ∨ e = b ∨ Bef c (f (s - 1)) (f e)) (H2 : e = m ∨ s = m ∨ Bef c (f (e - 1)) (f s)) {x y : Nat} (hx : a ≤ x) (hx2 : x < s + (e - m)) (hy : s + (e - m) ≤ y) (hy2 : y < b) : Bef c (rot s m e f x) (rot s m e f y) := by
  rcases Nat.lt_or_ge x s with c1 | c1
  · rw [rot1 f (.inl c1)]
    rcases Nat.lt_or_ge y e with d3 | d3
    · rw [rot3 f h1 h2 hy d3]; exact h.l _ _ hx (by omega) (by omega)
    · rw [rot1 f (.inr d3)]
      rcases H1 with H | H | H
      · omega
      · omega
      · exact Bef.lel hc (h.l.le hx (by omega) (by omega)) (Bef.ler hc H (h.r.le (by omega) d3 hy2))
  · rw [rot2 f h1 h2 c1 hx2]
    rcases Nat.lt_or_ge y e with d3 | d3
    · rw [rot3 f h1 h2 hy d3]
      rcases H2 with H | H | H
      · omega
      · omega
      · exact Bef.lel hc (h.r.le (by omega) (show x + (m - s) ≤ e - 1 by omega) (by omega)) (Bef.ler hc H (h.l.le h0 (by omega) (by omega)))
    · rw [rot1 f (.inr d3)]; exact h.r _ _ (by omega) (by omega) (by omega)
/-- the halves, sorted, are the whole, sorted -/
theorem MPre.done {c : Int → Int → Int} (hc : Cmp c) {f g1 g2 : Nat → Int} {a s m e b : Nat} (h : MPre c f a m b) (h0 : a ≤ s) (h1 : s ≤ m) (h2 : m ≤ e) (h3 : e ≤ b)
    (H1 : s = a ∨ e = b ∨ Bef c (f (s - 1)) (f e)) (H2 : e = m ∨ s = m ∨ Bef c (f (e - 1)) (f s))
    (G1 : Seg a (s + (e - m)) (rot s m e f) g1) (S1 : Srt c g1 a (s + (e - m))) (G2 : Seg (s + (e - m)) b g1 g2) (S2 : Srt c g2 (s + (e - m)) b) : Srt c g2 a b := by
  intro x y hx hxy hy
  rcases Nat.lt_or_ge y (s + (e - m)) with d | d
  · rw [G2.out (.inl (by omega)), G2.out (.inl d)]; exact S1 x y hx hxy d
  · rcases Nat.lt_or_ge x (s + (e - m)) with d1 | d1
    · rw [G2.out (.inl d1)]
      obtain ⟨x', p1, p2, e1⟩ := G1.ins hx d1
      obtain ⟨y', q1, q2, e2⟩ := G2.ins d hy
      rw [e1, e2, G1.out (.inr q1)]
      exact h.cross hc h0 h1 h2 h3 H1 H2 p1 p2 q1 q2
    · exact S2 x y d1 hxy hy

/-- two lists in order with the same members are one list -/
theorem sorted_unique {R : Int → Int → Prop} (irr : ∀ a b, R a b → ¬ R b a) : ∀ (l m : List Int), l.Pairwise R → m.Pairwise R → (∀ x, x ∈ l ↔ x ∈ m) → l = m
  | [], [], _, _, _ => rfl
  | [], b :: t, _, _, h => absurd ((h b).2 (List.mem_cons_self ..)) (by simp)
  | a :: s, [], _, _, h => absurd ((h a).1 (List.mem_cons_self ..)) (by simp)
  | a :: s, b :: t, h1, h2, h => by
    rw [List.pairwise_cons] at h1 h2
    have e : a = b := by
      have m1 := (h a).1 (List.mem_cons_self ..)
      have m2 := (h b).2 (List.mem_cons_self ..)
      rcases List.mem_cons.1 m1 with e | e
      · exact e
      · rcases List.mem_cons.1 m2 with e' | e'
        · exact e'.symm
        · exact absurd (h1.1 b e') (irr _ _ (h2.1 a e))
    subst e
    rw [sorted_unique irr s t h1.2 h2.2 fun x => ⟨fun hx => ?_, fun hx => ?_⟩]
    · rcases List.mem_cons.1 ((h x).1 (List.mem_cons_of_mem _ hx)) with e | e
      · subst e; exact absurd (h1.1 x hx) (fun q => irr _ _ q q)
      · exact e
    · rcases List.mem_cons.1 ((h x).2 (List.mem_cons_of_mem _ hx)) with e | e
      · subst e; exact absurd (h2.1 x hx) (fun q => irr _ _ q q)
      · exact e

/-- the data as a list of numbers -/
def toL (N : Nat) (f : Nat → Int) : List Int := (List.range N).map f
theorem mk_toL (N : Nat) (f : Nat → Int) : mk N f = (toL N f).map (D.int .i64) := by simp [mk, toL]
theorem toL_length (N : Nat) (f : Nat → Int) : (toL N f).length = N := by simp [toL]
theorem toL_sorted {c : Int → Int → Int} {N : Nat} {f : Nat → Int} (h : Srt c f 0 N) : (toL N f).Pairwise (Bef c) := by
  rw [toL, List.pairwise_map]
  have : (List.range N).Pairwise (fun a b => a < b ∧ b < N) := by
    rw [List.pairwise_iff_getElem]
    intro i j hi hj hij
    simp only [List.length_range] at hi hj
    simp only [List.getElem_range]
    omega
  exact this.imp fun {a b} hab => h a b (by omega) hab.1 hab.2
theorem toL_mem {N : Nat} {f g : Nat → Int} (h : Seg 0 N f g) (x : Int) : x ∈ toL N g ↔ x ∈ toL N f := by
  unfold toL
  simp only [List.mem_map, List.mem_range]
  constructor
  · rintro ⟨i, hi, e⟩
    obtain ⟨y, _, hy, e1⟩ := h.ins (x := i) (by omega) hi
    exact ⟨y, hy, by rw [← e1, e]⟩
  · rintro ⟨i, hi, e⟩
    obtain ⟨y, _, hy, e1⟩ := h.inv (y := i) (by omega) hi
    exact ⟨y, hy, by rw [e1, e]⟩
end Go.Proofs.Ytekkbhmlocageaa.GD
