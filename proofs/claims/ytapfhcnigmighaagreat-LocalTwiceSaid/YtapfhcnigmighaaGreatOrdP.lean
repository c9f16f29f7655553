import Derived.Test.YtapfhcnigmighaaGreatNumP
set_option linter.unusedVariables false
set_option linter.unusedSimpArgs false
namespace Go.Proofs.YtapfhcnigmighaaGreat.GD
open Go
def sgn (a b : Int) : Int := if a < b then -1 else if b < a then 1 else 0
def firstN : List Int → Int
 | [] => 0
 | x :: t => if x = 0 then firstN t else x
theorem sgn_cases (a b : Int) : (a < b ∧ sgn a b = -1) ∨ (a = b ∧ sgn a b = 0) ∨ (b < a ∧ sgn a b = 1) := by
 unfold sgn
 by_cases h1 : a < b
 · simp [h1]
 · by_cases h2 : b < a
   · simp [h1, h2]
   · have : a = b := by omega
     simp [this]
theorem sgn_zero {a b : Int} : sgn a b = 0 ↔ a = b := by rcases sgn_cases a b with ⟨_, e⟩ | ⟨_, e⟩ | ⟨_, e⟩ <;> rw [e] <;> omega
theorem sgn_lt {a b : Int} : sgn a b < 0 ↔ a < b := by rcases sgn_cases a b with ⟨_, e⟩ | ⟨_, e⟩ | ⟨_, e⟩ <;> rw [e] <;> omega
theorem firstN_cons (x : Int) (t : List Int) : firstN (x :: t) = if x = 0 then firstN t else x := rfl
theorem firstN_one (x : Int) : firstN [x] = x := by unfold firstN; split <;> simp_all [firstN]
def cmpL : List Int → List Int → Int
 | a :: s, b :: t => if a < b then -1 else if b < a then 1 else cmpL s t
 | _, _ => 0
theorem cmpL_cons (a b : Int) (s t : List Int) : cmpL (a :: s) (b :: t) = if sgn a b = 0 then cmpL s t else sgn a b := by
 simp only [cmpL]
 rcases sgn_cases a b with ⟨h, e⟩ | ⟨h, e⟩ | ⟨h, e⟩
 · rw [e]; simp [h]
 · subst h; rw [e]; simp
 · have : ¬ a < b := by omega
   rw [e]; simp [h, this]
theorem cmpL_first : ∀ (a b : List Int), cmpL a b = firstN (List.zipWith sgn a b)
 | [], b => by cases b <;> rfl
 | x :: a, [] => rfl
 | x :: a, y :: b => by rw [cmpL_cons, List.zipWith_cons_cons, firstN_cons, cmpL_first a b]
theorem cmpL_zero : ∀ {a b : List Int}, a.length = b.length → (cmpL a b = 0 ↔ a = b)
 | [], [], _ => by simp [cmpL]
 | x :: a, y :: b, h => by
  rw [cmpL_cons]
  by_cases e : sgn x y = 0
  · rw [if_pos e, cmpL_zero (by simpa using h)]
    rw [sgn_zero] at e
    simp [e]
  · rw [if_neg e]
    have : ¬ x = y := fun h => e (sgn_zero.2 h)
    simp [this, e]
 | [], _ :: _, h => by simp at h
 | _ :: _, [], h => by simp at h
theorem cmpB_cmpL : ∀ (a b : List Int), a.length = b.length → (∀ x, x ∈ a → 0 ≤ x ∧ x < 256) → (∀ x, x ∈ b → 0 ≤ x ∧ x < 256) → cmpB (bytesD (a.map (D.int .u8))) (bytesD (b.map (D.int .u8))) = cmpL a b
 | [], [], _, _, _ => rfl
 | x :: a, y :: b, hl, ha, hb => by
  have hx := ha x (by simp)
  have hy := hb y (by simp)
  have ih := cmpB_cmpL a b (by simpa using hl) (fun z hz => ha z (by simp [hz])) (fun z hz => hb z (by simp [hz]))
  have lt : ∀ {x y : Int}, 0 ≤ x ∧ x < 256 → 0 ≤ y ∧ y < 256 → (UInt8.ofNat x.toNat < UInt8.ofNat y.toNat ↔ x < y) := by
   intro x y hx hy
   rw [UInt8.lt_iff_toNat_lt, UInt8.toNat_ofNat', UInt8.toNat_ofNat']
   omega
  simp only [bytesD, List.map_cons, cmpB, cmpL, i_int, lt hx hy, lt hy hx] at ih ⊢
  rw [ih]
 | [], _ :: _, h, _, _ => by simp at h
 | _ :: _, [], h, _, _ => by simp at h
def risG (g : D → Bool) (lt : D → D → Bool) (p : D) : List D → Bool
 | [] => true
 | x :: t => g x && (lt p x && risG g lt x t)
def risF (g : D → Bool) (lt : D → D → Bool) : List D → Bool
 | [] => true
 | x :: t => g x && risG g lt x t
def risAt (g : D → Bool) (lt : D → D → Bool) (l : List D) : Nat → Bool
 | 0 => risF g lt l
 | i + 1 => risG g lt (l.getD i .undef) (l.drop (i + 1))
section
variable {g : D → Bool} {lt : D → D → Bool} {l : List D}
theorem risAt_lt {i : Nat} (h : i < l.length) : risAt g lt l i = (g l[i] && ((decide (i = 0) || lt (l.getD (i - 1) .undef) l[i]) && risAt g lt l (i + 1))) := by
 cases i with
 | zero =>
  cases l with
  | nil => simp at h
  | cons x t => simp [risAt, risF]
 | succ i =>
  have e1 : l.getD (i + 1) .undef = l[i + 1] := getD_get h
  simp only [risAt]
  rw [List.drop_eq_getElem_cons h, e1]
  simp [risG]
theorem risAt_end : risAt g lt l l.length = true := by
 cases l with
 | nil => rfl
 | cons x t => simp [risAt, risG]
theorem ris_loop {R : Type} {F : List D → (List D → Option R) → Option R} (l : List D) (g : D → Bool) (lt : D → D → Bool) (enc : Nat → List D) (bad fin : Option R)
  (step : ∀ i (hi : i < l.length) again, F (enc i) again = if g l[i] = true ∧ (i = 0 ∨ lt (l.getD (i - 1) .undef) l[i] = true) then again (enc (i + 1)) else bad)
  (hfin : ∀ again, F (enc l.length) again = fin) (k : Nat) (hk : l.length < k) : iter k F (enc 0) = if risF g lt l = true then fin else bad := by
 have := iter_ix (F := F) l.length enc (fun i => if risAt g lt l i = true then fin else bad) (fun i hi again ha => ?_) (fun again => ?_) k hk 0 (by omega)
 · exact this
 · rw [step i hi again, ha, risAt_lt hi]
   by_cases h1 : g l[i] = true
   · by_cases h2 : i = 0 ∨ lt (l.getD (i - 1) .undef) l[i] = true
     · have : (decide (i = 0) || lt (l.getD (i - 1) .undef) l[i]) = true := by simpa using h2
       rw [if_pos ⟨h1, h2⟩, h1, this]; simp
     · have : (decide (i = 0) || lt (l.getD (i - 1) .undef) l[i]) = false := by
        rw [Bool.eq_false_iff]; intro h; exact h2 (by simpa using h)
       rw [if_neg (fun h => h2 h.2), this]; simp
   · rw [if_neg (fun h => h1 h.1)]
     have : g l[i] = false := by simpa using h1
     rw [this]; simp
 · rw [hfin again, risAt_end]; simp
end
theorem all_loop {R : Type} {F : List D → (List D → Option R) → Option R} (n : Nat) (p : Nat → Bool) (enc : Nat → List D) (bad fin : Option R)
  (step : ∀ i, i < n → ∀ again, F (enc i) again = if p i = true then again (enc (i + 1)) else bad)
  (hfin : ∀ again, F (enc n) again = fin) (k : Nat) (hk : n < k) : ∃ b : Bool, iter k F (enc 0) = (if b = true then fin else bad) ∧ (b = true ↔ ∀ i, i < n → p i = true) := by
 suffices H : ∀ m i, n - i = m → i ≤ n → ∃ b : Bool, (∀ k, n - i < k → iter k F (enc i) = (if b = true then fin else bad)) ∧ (b = true ↔ ∀ j, i ≤ j → j < n → p j = true) by
  obtain ⟨b, h1, h2⟩ := H n 0 (by omega) (by omega)
  exact ⟨b, h1 k (by omega), h2.trans ⟨fun h i hi => h i (by omega) hi, fun h i _ hi => h i hi⟩⟩
 intro m
 induction m with
 | zero =>
  intro i hm hi
  have : i = n := by omega
  subst this
  refine ⟨true, fun k hk => ?_, by simp; intro j h1 h2; omega⟩
  obtain ⟨k, rfl⟩ : ∃ q, k = q + 1 := ⟨k - 1, by omega⟩
  rw [iter, hfin]; simp
 | succ m ih =>
  intro i hm hi
  obtain ⟨b, h1, h2⟩ := ih (i + 1) (by omega) (by omega)
  refine ⟨p i && b, fun k hk => ?_, ?_⟩
  · obtain ⟨k, rfl⟩ : ∃ q, k = q + 1 := ⟨k - 1, by omega⟩
    rw [iter, step i (by omega), h1 k (by omega)]
    cases p i <;> simp
  · rw [zq3, h2]
    exact ⟨fun h j h3 h4 => by
     by_cases e : j = i
     · rw [e]; exact h.1
     · exact h.2 j (by omega) h4, fun h => ⟨h i (by omega) (by omega), fun j h3 h4 => h j (by omega) h4⟩⟩
def numK : Sk → Bool | .int _ => true | .bool => true | _ => false
theorem eqCells_iff : ∀ (ks : List Sk) (l m : List D), ks.all numK = true → fitsL ks l = true → fitsL ks m = true → (eqCells l m = true ↔ l = m)
 | [], l, m, _, h1, h2 => by rw [fitsL_nil h1, fitsL_nil h2]; simp [eqCells]
 | k :: ks, l, m, hk, h1, h2 => by
  obtain ⟨x, l, rfl, a1, a2⟩ := fitsL_cons h1
  obtain ⟨y, m, rfl, b1, b2⟩ := fitsL_cons h2
  simp only [List.all_cons, zq3] at hk
  have ih := eqCells_iff ks l m hk.2 a2 b2
  have hc : eqC x y = true ↔ x = y := by
   cases k <;> simp [numK] at hk
   · obtain ⟨i, rfl⟩ := fits_int a1
     obtain ⟨j, rfl⟩ := fits_int b1
     simp [eqC]
   · obtain ⟨i, rfl⟩ := fits_bool a1
     obtain ⟨j, rfl⟩ := fits_bool b1
     simp [eqC]
  have hl := (fitsL_spec a2).1
  have hm := (fitsL_spec b2).1
  cases l with
  | nil =>
   cases m with
   | nil => simp [eqCells, hc]
   | cons z m => simp at hl hm; omega
  | cons w l =>
   cases m with
   | nil => simp at hl hm; omega
   | cons z m =>
    simp only [eqCells, zq3, ih, hc, List.cons.injEq]
theorem eqCells_eta {ks : List Sk} {a b : D} (hk : ks.all numK = true) (ha : Vk.fits ⟨true, ks⟩ a = true) (hb : Vk.fits ⟨true, ks⟩ b = true) : eqCells (etaCells ks a 0) (etaCells ks b 0) = true ↔ a = b := by
 rw [eqCells_iff ks _ _ hk (fitsL_eta ..) (fitsL_eta ..)]
 constructor
 · intro h
   rw [← eta_fit ha, ← eta_fit hb, h]
 · intro h; rw [h]
end Go.Proofs.YtapfhcnigmighaaGreat.GD
