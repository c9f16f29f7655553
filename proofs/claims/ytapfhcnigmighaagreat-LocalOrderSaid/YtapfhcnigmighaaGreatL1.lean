import Derived.Test.YtapfhcnigmighaaGreatG4
import Derived.Test.YtapfhcnigmighaaGreatR
import Derived.KernelRfl
import Derived.Test.YtapfhcnigmighaaGreatRLocalOrder
set_option linter.unusedVariables false
set_option linter.unusedSimpArgs false
namespace Go.Proofs.YtapfhcnigmighaaGreat.GD
open Go
theorem wrap_u64 (n : Int) : IntKind.u64.wrap n = n % 18446744073709551616 := by
 simp [IntKind.wrap, IntKind.bits, IntKind.signed]
theorem wrap_u64' {n : Nat} (h : n < 18446744073709551616) : IntKind.u64.wrap (n : Int) = n := by rw [wrap_u64]; omega
def clr (x n : Nat) : Nat := x - x % 2 ^ n
theorem clr_eq (x n : Nat) : clr x n = x / 2 ^ n * 2 ^ n := by
 unfold clr
 have := Nat.div_add_mod x (2 ^ n)
 rw [Nat.mul_comm] at this
 omega
theorem testBit_clr (x n i : Nat) : (clr x n).testBit i = (decide (n ≤ i) && x.testBit i) := by
 rw [clr_eq, ← Nat.shiftRight_eq_div_pow, ← Nat.shiftLeft_eq, Nat.testBit_shiftLeft, Nat.testBit_shiftRight]
 by_cases h : n ≤ i
 · simp [h, Nat.add_sub_cancel' h]
 · simp [h]
theorem testBit_ones (n i : Nat) (hn : n ≤ 64) : (18446744073709551616 - 2 ^ n).testBit i = (decide (n ≤ i) && decide (i < 64)) := by
 have e : 18446744073709551616 - 2 ^ n = clr (2 ^ 64 - 1) n := by
  unfold clr
  have hle : 2 ^ n ≤ 2 ^ 64 := Nat.pow_le_pow_right (by omega) hn
  have hpos : 0 < 2 ^ n := Nat.pow_pos (by omega)
  have : (2 ^ 64 - 1) % 2 ^ n = 2 ^ n - 1 := by
   obtain ⟨k, hk⟩ : ∃ k, 64 = n + k := ⟨64 - n, by omega⟩
   have h64 : (2 : Nat) ^ 64 = 2 ^ n * 2 ^ k := by rw [hk, Nat.pow_add]
   have hk1 : 0 < 2 ^ k := Nat.pow_pos (by omega)
   have e2 : 2 ^ 64 - 1 = 2 ^ n * (2 ^ k - 1) + (2 ^ n - 1) := by
    rw [h64, Nat.mul_sub, Nat.mul_one]
    have : 2 ^ n ≤ 2 ^ n * 2 ^ k := Nat.le_mul_of_pos_right _ hk1
    omega
   rw [e2, Nat.mul_add_mod, Nat.mod_eq_of_lt (by omega)]
  rw [this]
  omega
 rw [e, testBit_clr, Nat.testBit_two_pow_sub_one]
theorem and_ones {x n : Nat} (hx : x < 18446744073709551616) (hn : n ≤ 64) : x &&& (18446744073709551616 - 2 ^ n) = clr x n := by
 apply Nat.eq_of_testBit_eq
 intro i
 rw [Nat.testBit_and, testBit_ones n i hn, testBit_clr]
 by_cases h : i < 64
 · simp [h, Bool.and_comm]
 · have : x.testBit i = false := Nat.testBit_lt_two_pow (Nat.lt_of_lt_of_le hx (by
    have : (2 : Nat) ^ 64 ≤ 2 ^ i := Nat.pow_le_pow_right (by omega) (by omega)
    simpa using this))
   simp [this]
theorem and_low32 {x : Nat} : x &&& 4294967295 = x % 4294967296 := by
 have := Nat.and_two_pow_sub_one_eq_mod x 32
 simpa using this
theorem and_u64 {x y : Nat} (hx : x < 18446744073709551616) (hy : y < 18446744073709551616) : IntKind.u64.wrap (BitVec.ofInt (IntKind.u64).bits (x : Int) &&& BitVec.ofInt (IntKind.u64).bits (y : Int)).toNat = ((x &&& y : Nat) : Int) := by
 have e : (BitVec.ofInt (IntKind.u64).bits (x : Int) &&& BitVec.ofInt (IntKind.u64).bits (y : Int)).toNat = x &&& y := by
  show (BitVec.ofInt 64 (x : Int) &&& BitVec.ofInt 64 (y : Int)).toNat = x &&& y
  rw [BitVec.toNat_and]
  simp only [BitVec.ofInt_natCast, BitVec.toNat_ofNat]
  rw [Nat.mod_eq_of_lt (by simpa using hx), Nat.mod_eq_of_lt (by simpa using hy)]
 rw [e]
 exact wrap_u64' (Nat.lt_of_le_of_lt Nat.and_le_left hx)
theorem ones_shl {n : Nat} (hn : n ≤ 64) : IntKind.u64.wrap (18446744073709551615 * 2 ^ n) = ((18446744073709551616 - 2 ^ n : Nat) : Int) := by
 have hle : 2 ^ n ≤ 18446744073709551616 := by
  have : (2 : Nat) ^ n ≤ 2 ^ 64 := Nat.pow_le_pow_right (by omega) hn
  simpa using this
 have hpos : 0 < 2 ^ n := Nat.pow_pos (by omega)
 rw [wrap_u64]
 have e : (18446744073709551615 * 2 ^ n : Int) = ((18446744073709551615 * 2 ^ n : Nat) : Int) := by simp
 rw [e]
 have : 18446744073709551615 * 2 ^ n = 18446744073709551616 * (2 ^ n - 1) + (18446744073709551616 - 2 ^ n) := by
  rw [Nat.mul_sub, Nat.mul_one]
  have : 18446744073709551616 ≤ 18446744073709551616 * 2 ^ n := Nat.le_mul_of_pos_right _ hpos
  omega
 rw [this]
 omega
end Go.Proofs.YtapfhcnigmighaaGreat.GD
namespace Go.Proofs.YtapfhcnigmighaaGreat.Own
open Go Go.Proofs.YtapfhcnigmighaaGreat.GD
def widthF (f : Int) : Nat := if f = 4 then 32 else if f = 6 then 128 else 0
def addrOk (f : Int) (h l : Nat) : Bool := if f = 6 then true else decide (f = 4 ∧ h = 0 ∧ l < 4294967296)
def cutA (f : Int) (h l n : Nat) : Nat × Nat := if 64 ≤ n then (clr h (n - 64), 0) else (h, clr l n)
def checkP (f : Int) (h l : Nat) (len : Int) : Int :=
 if widthF f = 0 then 2 else if addrOk f h l = true ∧ 0 ≤ len ∧ len ≤ widthF f ∧ cutA f h l (widthF f - len.toNat) = (h, l) then 0 else 8
abbrev A64 (h l : Nat) : D := .agg [.int .u64 (h : Int), .int .u64 (l : Int)]
abbrev P4 (f : Int) (h l : Nat) (len : Int) : D := .agg [.int .u8 f, .int .u64 (h : Int), .int .u64 (l : Int), .int .i64 len]
structure In64 (h l : Nat) : Prop where
 h : h < 18446744073709551616
 l : l < 18446744073709551616
theorem width_ok (f : Int) : Cl ty tab 130 [.int .u8 f] = some [.int .i64 (widthF f : Nat)] := by
 refine s_number_width 0 _ ?_
 unfold number_width widthF
 by_cases h4 : f = 4
 · simp (disch := omega) only [gds, h4]; rfl
 · by_cases h6 : f = 6
   · simp (disch := omega) only [gds, h4, h6]; rfl
   · simp (disch := omega) only [gds, h4, h6]; rfl
theorem addr_ok (f : Int) (h l : Nat) : Cl ty tab 131 [.int .u8 f, A64 h l] = some [.bool (addrOk f h l)] := by
 refine s_number_CheckAddr 0 _ _ _ ?_
 unfold number_CheckAddr addrOk
 by_cases h6 : f = 6
 · simp (disch := omega) only [gds, h6]
 · by_cases h4 : f = 4
   · by_cases hh : h = 0
     · have : ((h : Int) = 0) := by omega
       have e : decide ((l : Int) < 4294967296) = decide (l < 4294967296) := by simp only [decide_eq_decide]; omega
       simp (disch := omega) only [gds, h6, h4, this, hh, e, true_and]
     · have : ¬ ((h : Int) = 0) := by omega
       simp (disch := omega) only [gds, h6, h4, this, hh, false_and, and_false]
   · simp (disch := omega) only [gds, h6, h4, false_and]
theorem mask_ok (f : Int) (len : Int) (hf : f = 4 ∨ f = 6) (h0 : 0 ≤ len) (h1 : len ≤ widthF f) : ∃ mh ml : Nat, In64 mh ml ∧ Cl ty tab 71 [.int .u8 f, .int .i64 len] = some [A64 mh ml] ∧
  ∀ h l, In64 h l → addrOk f h l = true → (h &&& mh, l &&& ml) = cutA f h l (widthF f - len.toNat) := by
 have p64 : ∀ n, 18446744073709551616 - 2 ^ n < 18446744073709551616 := fun n => by have : 0 < 2 ^ n := Nat.pow_pos (by omega); omega
 rcases hf with rfl | rfl
 · have hw : widthF 4 = 32 := rfl
   rw [hw] at h1 ⊢
   obtain ⟨n, rfl⟩ : ∃ n : Nat, len = n := ⟨len.toNat, by omega⟩
   have e1 : ((18446744073709551616 - 2 ^ (32 - n) : Nat) &&& 4294967295) < 18446744073709551616 := Nat.lt_of_le_of_lt Nat.and_le_left (p64 _)
   refine ⟨0, (18446744073709551616 - 2 ^ (32 - n)) &&& 4294967295, ⟨by omega, e1⟩, ?_, ?_⟩
   · refine s_number_mask 0 _ _ ?_
     unfold number_mask
     have e2 : ((32 : Nat) : Int) - n = ((32 - n : Nat) : Int) := by omega
     have e3 : min (32 - n) (IntKind.u64).bits = 32 - n := by show min _ 64 = _; omega
     have e4 := ones_shl (n := 32 - n) (by omega)
     have e5 := and_u64 (p64 (32 - n)) (show 4294967295 < 18446744073709551616 by omega)
     simp (disch := omega) only [gds, width_ok, hw, e2, e3, e4]
     rw [show ((4294967295 : Int)) = ((4294967295 : Nat) : Int) from rfl, e5]
     rfl
   · intro h l hr ha
     unfold addrOk at ha
     simp at ha
     obtain ⟨rfl, hl⟩ := ha
     have hn : ¬ 64 ≤ 32 - (n : Int).toNat := by omega
     unfold cutA
     rw [if_neg hn, Int.toNat_natCast]
     have : l &&& ((18446744073709551616 - 2 ^ (32 - n)) &&& 4294967295) = clr l (32 - n) := by
      rw [Nat.and_comm (18446744073709551616 - 2 ^ (32 - n)), ← Nat.and_assoc, and_low32, Nat.mod_eq_of_lt hl, and_ones hr.l (by omega)]
     rw [this]
     simp
 · have hw : widthF 6 = 128 := rfl
   rw [hw] at h1 ⊢
   obtain ⟨n, rfl⟩ : ∃ n : Nat, len = n := ⟨len.toNat, by omega⟩
   have e2 : ((128 : Nat) : Int) - n = ((128 - n : Nat) : Int) := by omega
   by_cases hn : 64 ≤ 128 - n
   · refine ⟨18446744073709551616 - 2 ^ (128 - n - 64), 0, ⟨p64 _, by omega⟩, ?_, ?_⟩
     · refine s_number_mask 0 _ _ ?_
       unfold number_mask
       have e3 : min (128 - n - 64) (IntKind.u64).bits = 128 - n - 64 := by show min _ 64 = _; omega
       have e4 := ones_shl (n := 128 - n - 64) (by omega)
       have e6 : ((128 - n : Nat) : Int) - 64 = ((128 - n - 64 : Nat) : Int) := by omega
       have e7 : (64 : Int) ≤ ((128 - n : Nat) : Int) := by omega
       simp (disch := omega) only [gds, width_ok, hw, e2, e6, e7, e3, e4, show ¬ (6 : Int) = 4 by omega]
       rfl
     · intro h l hr ha
       unfold cutA
       rw [Int.toNat_natCast, if_pos hn, and_ones hr.h (by omega), Nat.and_zero]
   · refine ⟨18446744073709551615, 18446744073709551616 - 2 ^ (128 - n), ⟨by omega, p64 _⟩, ?_, ?_⟩
     · refine s_number_mask 0 _ _ ?_
       unfold number_mask
       have e3 : min (128 - n) (IntKind.u64).bits = 128 - n := by show min _ 64 = _; omega
       have e4 := ones_shl (n := 128 - n) (by omega)
       have e7 : ¬ (64 : Int) ≤ ((128 - n : Nat) : Int) := by omega
       simp (disch := omega) only [gds, width_ok, hw, e2, e7, e3, e4, show ¬ (6 : Int) = 4 by omega]
       rfl
     · intro h l hr ha
       unfold cutA
       rw [Int.toNat_natCast, if_neg hn, and_ones hr.l (by omega)]
       have : h &&& 18446744073709551615 = h := by
        have := Nat.and_two_pow_sub_one_eq_mod h 64
        simp at this
        rw [this, Nat.mod_eq_of_lt hr.h]
       rw [this]
theorem and_ok (a b c d : Nat) (h1 : In64 a b) (h2 : In64 c d) : Cl ty tab 70 [A64 a b, A64 c d] = some [A64 (a &&& c) (b &&& d)] := by
 refine s_number_and 0 _ _ _ _ ?_
 unfold number_and
 rw [and_u64 h1.h h2.h, and_u64 h1.l h2.l]
theorem widthF_cases (f : Int) : widthF f = 0 ∨ (f = 4 ∧ widthF f = 32) ∨ (f = 6 ∧ widthF f = 128) := by
 unfold widthF
 by_cases h4 : f = 4
 · simp [h4]
 · by_cases h6 : f = 6 <;> simp [h4, h6]
theorem check_prefix_ok (f : Int) (h l : Nat) (len : Int) (hr : In64 h l) : Cl ty tab 69 [P4 f h l len] = some [.int .i64 (checkP f h l len)] := by
 refine s_number_Check 0 _ _ _ _ ?_
 unfold number_Check checkP
 rcases widthF_cases f with hw | hw
 · simp (disch := omega) only [gds, width_ok, hw, Int.natCast_zero]
 have hw0 : ¬ widthF f = 0 := by rcases hw with ⟨_, h⟩ | ⟨_, h⟩ <;> omega
 have hw0' : ¬ ((widthF f : Nat) : Int) = 0 := by omega
 have hf : f = 4 ∨ f = 6 := by rcases hw with ⟨h, _⟩ | ⟨h, _⟩; exact .inl h; exact .inr h
 cases ha : addrOk f h l
 · simp (disch := omega) only [gds, width_ok, hw0, hw0', addr_ok, ha, false_and]
 by_cases h1 : len < 0
 · have : ¬ 0 ≤ len := by omega
   simp (disch := omega) only [gds, width_ok, hw0, hw0', addr_ok, ha, h1, this, false_and, and_false]
 by_cases h2 : ((widthF f : Nat) : Int) < len
 · have : ¬ len ≤ ((widthF f : Nat) : Int) := by omega
   simp (disch := omega) only [gds, width_ok, hw0, hw0', addr_ok, ha, h1, h2, this, false_and, and_false]
 obtain ⟨mh, ml, hm, hmask, hcut⟩ := mask_ok f len hf (by omega) (by omega)
 have hc := hcut h l hr ha
 have hand := and_ok h l mh ml hr hm
 have h3 : 0 ≤ len := by omega
 have h4 : len ≤ ((widthF f : Nat) : Int) := by omega
 rw [← hc]
 simp (disch := omega) only [gds, width_ok, hw0, hw0', addr_ok, ha, h1, h2, hmask, hand, h3, h4, true_and]
 by_cases q1 : h &&& mh = h
 · by_cases q2 : l &&& ml = l
   · have e1 : ((h &&& mh : Nat) : Int) = h := by rw [q1]
     have e2 : ((l &&& ml : Nat) : Int) = l := by rw [q2]
     rw [e1, e2]
     simp [q1, q2]
   · have e2 : ¬ ((l &&& ml : Nat) : Int) = l := by omega
     simp [q2, e2]
 · have e1 : ¬ ((h &&& mh : Nat) : Int) = h := by omega
   simp [q1, e1]
end Go.Proofs.YtapfhcnigmighaaGreat.Own
namespace Go.Proofs.YtapfhcnigmighaaGreat.GD
open Go
def sgn (a b : Int) : Int := if a < b then -1 else if b < a then 1 else 0
def firstN : List Int → Int
 | [] => 0
 | x :: t => if x = 0 then firstN t else x
theorem sgn_cases (a b : Int) : (a < b ∧ sgn a b = -1) ∨ (a = b ∧ sgn a b = 0) ∨ (b < a ∧ sgn a b = 1) := by
 unfold sgn
 by_cases h1 : a < b
 · simp [h1]
 · by_cases h2 : b < a
   · simp [h1, h2]
   · have : a = b := by omega
     simp [this]
theorem sgn_zero {a b : Int} : sgn a b = 0 ↔ a = b := by rcases sgn_cases a b with ⟨_, e⟩ | ⟨_, e⟩ | ⟨_, e⟩ <;> rw [e] <;> omega
theorem sgn_lt {a b : Int} : sgn a b < 0 ↔ a < b := by rcases sgn_cases a b with ⟨_, e⟩ | ⟨_, e⟩ | ⟨_, e⟩ <;> rw [e] <;> omega
theorem firstN_cons (x : Int) (t : List Int) : firstN (x :: t) = if x = 0 then firstN t else x := rfl
theorem firstN_one (x : Int) : firstN [x] = x := by unfold firstN; split <;> simp_all [firstN]
def cmpL : List Int → List Int → Int
 | a :: s, b :: t => if a < b then -1 else if b < a then 1 else cmpL s t
 | _, _ => 0
theorem cmpL_cons (a b : Int) (s t : List Int) : cmpL (a :: s) (b :: t) = if sgn a b = 0 then cmpL s t else sgn a b := by
 simp only [cmpL]
 rcases sgn_cases a b with ⟨h, e⟩ | ⟨h, e⟩ | ⟨h, e⟩
 · rw [e]; simp [h]
 · subst h; rw [e]; simp
 · have : ¬ a < b := by omega
   rw [e]; simp [h, this]
theorem cmpL_first : ∀ (a b : List Int), cmpL a b = firstN (List.zipWith sgn a b)
 | [], b => by cases b <;> rfl
 | x :: a, [] => rfl
 | x :: a, y :: b => by rw [cmpL_cons, List.zipWith_cons_cons, firstN_cons, cmpL_first a b]
theorem cmpL_zero : ∀ {a b : List Int}, a.length = b.length → (cmpL a b = 0 ↔ a = b)
 | [], [], _ => by simp [cmpL]
 | x :: a, y :: b, h => by
  rw [cmpL_cons]
  by_cases e : sgn x y = 0
  · rw [if_pos e, cmpL_zero (by simpa using h)]
    rw [sgn_zero] at e
    simp [e]
  · rw [if_neg e]
    have : ¬ x = y := fun h => e (sgn_zero.2 h)
    simp [this, e]
 | [], _ :: _, h => by simp at h
 | _ :: _, [], h => by simp at h
theorem cmpB_cmpL : ∀ (a b : List Int), a.length = b.length → (∀ x, x ∈ a → 0 ≤ x ∧ x < 256) → (∀ x, x ∈ b → 0 ≤ x ∧ x < 256) → cmpB (bytesD (a.map (D.int .u8))) (bytesD (b.map (D.int .u8))) = cmpL a b
 | [], [], _, _, _ => rfl
 | x :: a, y :: b, hl, ha, hb => by
  have hx := ha x (by simp)
  have hy := hb y (by simp)
  have ih := cmpB_cmpL a b (by simpa using hl) (fun z hz => ha z (by simp [hz])) (fun z hz => hb z (by simp [hz]))
  have lt : ∀ {x y : Int}, 0 ≤ x ∧ x < 256 → 0 ≤ y ∧ y < 256 → (UInt8.ofNat x.toNat < UInt8.ofNat y.toNat ↔ x < y) := by
   intro x y hx hy
   rw [UInt8.lt_iff_toNat_lt, UInt8.toNat_ofNat', UInt8.toNat_ofNat']
   omega
  simp only [bytesD, List.map_cons, cmpB, cmpL, i_int, lt hx hy, lt hy hx] at ih ⊢
  rw [ih]
 | [], _ :: _, h, _, _ => by simp at h
 | _ :: _, [], h, _, _ => by simp at h
def risG (g : D → Bool) (lt : D → D → Bool) (p : D) : List D → Bool
 | [] => true
 | x :: t => g x && (lt p x && risG g lt x t)
def risF (g : D → Bool) (lt : D → D → Bool) : List D → Bool
 | [] => true
 | x :: t => g x && risG g lt x t
def risAt (g : D → Bool) (lt : D → D → Bool) (l : List D) : Nat → Bool
 | 0 => risF g lt l
 | i + 1 => risG g lt (l.getD i .undef) (l.drop (i + 1))
section
variable {g : D → Bool} {lt : D → D → Bool} {l : List D}
theorem risAt_lt {i : Nat} (h : i < l.length) : risAt g lt l i = (g l[i] && ((decide (i = 0) || lt (l.getD (i - 1) .undef) l[i]) && risAt g lt l (i + 1))) := by
 cases i with
 | zero =>
  cases l with
  | nil => simp at h
  | cons x t => simp [risAt, risF]
 | succ i =>
  have e1 : l.getD (i + 1) .undef = l[i + 1] := getD_get h
  simp only [risAt]
  rw [List.drop_eq_getElem_cons h, e1]
  simp [risG]
theorem risAt_end : risAt g lt l l.length = true := by
 cases l with
 | nil => rfl
 | cons x t => simp [risAt, risG]
theorem ris_loop {R : Type} {F : List D → (List D → Option R) → Option R} (l : List D) (g : D → Bool) (lt : D → D → Bool) (enc : Nat → List D) (bad fin : Option R)
  (step : ∀ i (hi : i < l.length) again, F (enc i) again = if g l[i] = true ∧ (i = 0 ∨ lt (l.getD (i - 1) .undef) l[i] = true) then again (enc (i + 1)) else bad)
  (hfin : ∀ again, F (enc l.length) again = fin) (k : Nat) (hk : l.length < k) : iter k F (enc 0) = if risF g lt l = true then fin else bad := by
 have := iter_ix (F := F) l.length enc (fun i => if risAt g lt l i = true then fin else bad) (fun i hi again ha => ?_) (fun again => ?_) k hk 0 (by omega)
 · exact this
 · rw [step i hi again, ha, risAt_lt hi]
   by_cases h1 : g l[i] = true
   · by_cases h2 : i = 0 ∨ lt (l.getD (i - 1) .undef) l[i] = true
     · have : (decide (i = 0) || lt (l.getD (i - 1) .undef) l[i]) = true := by simpa using h2
       rw [if_pos ⟨h1, h2⟩, h1, this]; simp
     · have : (decide (i = 0) || lt (l.getD (i - 1) .undef) l[i]) = false := by
        rw [Bool.eq_false_iff]; intro h; exact h2 (by simpa using h)
       rw [if_neg (fun h => h2 h.2), this]; simp
   · rw [if_neg (fun h => h1 h.1)]
     have : g l[i] = false := by simpa using h1
     rw [this]; simp
 · rw [hfin again, risAt_end]; simp
end
theorem all_loop {R : Type} {F : List D → (List D → Option R) → Option R} (n : Nat) (p : Nat → Bool) (enc : Nat → List D) (bad fin : Option R)
  (step : ∀ i, i < n → ∀ again, F (enc i) again = if p i = true then again (enc (i + 1)) else bad)
  (hfin : ∀ again, F (enc n) again = fin) (k : Nat) (hk : n < k) : ∃ b : Bool, iter k F (enc 0) = (if b = true then fin else bad) ∧ (b = true ↔ ∀ i, i < n → p i = true) := by
 suffices H : ∀ m i, n - i = m → i ≤ n → ∃ b : Bool, (∀ k, n - i < k → iter k F (enc i) = (if b = true then fin else bad)) ∧ (b = true ↔ ∀ j, i ≤ j → j < n → p j = true) by
  obtain ⟨b, h1, h2⟩ := H n 0 (by omega) (by omega)
  exact ⟨b, h1 k (by omega), h2.trans ⟨fun h i hi => h i (by omega) hi, fun h i _ hi => h i hi⟩⟩
 intro m
 induction m with
 | zero =>
  intro i hm hi
  have : i = n := by omega
  subst this
  refine ⟨true, fun k hk => ?_, by simp; intro j h1 h2; omega⟩
  obtain ⟨k, rfl⟩ : ∃ q, k = q + 1 := ⟨k - 1, by omega⟩
  rw [iter, hfin]; simp
 | succ m ih =>
  intro i hm hi
  obtain ⟨b, h1, h2⟩ := ih (i + 1) (by omega) (by omega)
  refine ⟨p i && b, fun k hk => ?_, ?_⟩
  · obtain ⟨k, rfl⟩ : ∃ q, k = q + 1 := ⟨k - 1, by omega⟩
    rw [iter, step i (by omega), h1 k (by omega)]
    cases p i <;> simp
  · rw [zq3, h2]
    exact ⟨fun h j h3 h4 => by
     by_cases e : j = i
     · rw [e]; exact h.1
     · exact h.2 j (by omega) h4, fun h => ⟨h i (by omega) (by omega), fun j h3 h4 => h j (by omega) h4⟩⟩
def numK : Sk → Bool | .int _ => true | .bool => true | _ => false
theorem eqCells_iff : ∀ (ks : List Sk) (l m : List D), ks.all numK = true → fitsL ks l = true → fitsL ks m = true → (eqCells l m = true ↔ l = m)
 | [], l, m, _, h1, h2 => by rw [fitsL_nil h1, fitsL_nil h2]; simp [eqCells]
 | k :: ks, l, m, hk, h1, h2 => by
  obtain ⟨x, l, rfl, a1, a2⟩ := fitsL_cons h1
  obtain ⟨y, m, rfl, b1, b2⟩ := fitsL_cons h2
  simp only [List.all_cons, zq3] at hk
  have ih := eqCells_iff ks l m hk.2 a2 b2
  have hc : eqC x y = true ↔ x = y := by
   cases k <;> simp [numK] at hk
   · obtain ⟨i, rfl⟩ := fits_int a1
     obtain ⟨j, rfl⟩ := fits_int b1
     simp [eqC]
   · obtain ⟨i, rfl⟩ := fits_bool a1
     obtain ⟨j, rfl⟩ := fits_bool b1
     simp [eqC]
  have hl := (fitsL_spec a2).1
  have hm := (fitsL_spec b2).1
  cases l with
  | nil =>
   cases m with
   | nil => simp [eqCells, hc]
   | cons z m => simp at hl hm; omega
  | cons w l =>
   cases m with
   | nil => simp at hl hm; omega
   | cons z m =>
    simp only [eqCells, zq3, ih, hc, List.cons.injEq]
theorem eqCells_eta {ks : List Sk} {a b : D} (hk : ks.all numK = true) (ha : Vk.fits ⟨true, ks⟩ a = true) (hb : Vk.fits ⟨true, ks⟩ b = true) : eqCells (etaCells ks a 0) (etaCells ks b 0) = true ↔ a = b := by
 rw [eqCells_iff ks _ _ hk (fitsL_eta ..) (fitsL_eta ..)]
 constructor
 · intro h
   rw [← eta_fit ha, ← eta_fit hb, h]
 · intro h; rw [h]
end Go.Proofs.YtapfhcnigmighaaGreat.GD
namespace Go.Proofs.YtapfhcnigmighaaGreat.Own
open Go Go.Proofs.YtapfhcnigmighaaGreat.GD
theorem cmp_int (a b : Int) : Cl ty tab 94 [.int .i64 a, .int .i64 b] = some [.int .i64 (sgn a b)] := by
 have hn : ∀ x, Cl ty tab 138 [.int .i64 x] = some [.bool false] := fun x => s_cmp_isNaN_138 0 _ (by unfold cmp_isNaN_138; simp)
 refine s_cmp_Compare_94 0 _ _ ?_
 unfold cmp_Compare_94 sgn
 by_cases h1 : a < b
 · simp (disch := omega) only [gds, hn, h1]
 · by_cases h2 : b < a
   · simp (disch := omega) only [gds, hn, h1, h2]
   · simp (disch := omega) only [gds, hn, h1, h2]
theorem cmp_u8 (a b : Int) : Cl ty tab 133 [.int .u8 a, .int .u8 b] = some [.int .i64 (sgn a b)] := by
 have hn : ∀ x, Cl ty tab 151 [.int .u8 x] = some [.bool false] := fun x => s_cmp_isNaN_151 0 _ (by unfold cmp_isNaN_151; simp)
 refine s_cmp_Compare_133 0 _ _ ?_
 unfold cmp_Compare_133 sgn
 by_cases h1 : a < b
 · simp (disch := omega) only [gds, hn, h1]
 · by_cases h2 : b < a
   · simp (disch := omega) only [gds, hn, h1, h2]
   · simp (disch := omega) only [gds, hn, h1, h2]
theorem cmp_u32 (a b : Int) : Cl ty tab 90 [.int .u32 a, .int .u32 b] = some [.int .i64 (sgn a b)] := by
 have hn : ∀ x, Cl ty tab 136 [.int .u32 x] = some [.bool false] := fun x => s_cmp_isNaN_136 0 _ (by unfold cmp_isNaN_136; simp)
 refine s_cmp_Compare_90 0 _ _ ?_
 unfold cmp_Compare_90 sgn
 by_cases h1 : a < b
 · simp (disch := omega) only [gds, hn, h1]
 · by_cases h2 : b < a
   · simp (disch := omega) only [gds, hn, h1, h2]
   · simp (disch := omega) only [gds, hn, h1, h2]
theorem cmp_u64 (a b : Int) : Cl ty tab 152 [.int .u64 a, .int .u64 b] = some [.int .i64 (sgn a b)] := by
 have hn : ∀ x, Cl ty tab 159 [.int .u64 x] = some [.bool false] := fun x => s_cmp_isNaN_159 0 _ (by unfold cmp_isNaN_159; simp)
 refine s_cmp_Compare_152 0 _ _ ?_
 unfold cmp_Compare_152 sgn
 by_cases h1 : a < b
 · simp (disch := omega) only [gds, hn, h1]
 · by_cases h2 : b < a
   · simp (disch := omega) only [gds, hn, h1, h2]
   · simp (disch := omega) only [gds, hn, h1, h2]
theorem addrC_ok (a b c d : Int) : Cl ty tab 134 [.agg [.int .u64 a, .int .u64 b], .agg [.int .u64 c, .int .u64 d]] = some [.int .i64 (firstN [sgn a c, sgn b d])] := by
 refine s_number_Compare 0 _ _ _ _ ?_
 unfold number_Compare
 rw [firstN_cons, firstN_one]
 by_cases h : sgn a c = 0
 · simp (disch := omega) only [gds, cmp_u64, h, ne_eq, not_true_eq_false]
 · simp (disch := omega) only [gds, cmp_u64, h, ne_eq, not_false_eq_true]
theorem or_ok (n : Bool) (L : List Int) (hL : L.length ≤ 1000) : Cl ty tab 87 [.sl 3 n (L.map (D.int .i64))] = some [.int .i64 (firstN L)] := by
 obtain ⟨k, hk⟩ := rounds
 refine s_cmp_Or_87 k _ _ ?_
 unfold cmp_Or_87
 have := iter_ix (F := cmp_Or_87.b0 (Cl ty tab) k (L.map (D.int .i64))) L.length (fun i => [.int .i64 i]) (fun i => some [.int .i64 (firstN (L.drop i))]) (fun i hi again ha => ?_) (fun again => ?_) k (by omega) 0 (by omega)
 · exact this
 · unfold cmp_Or_87.b0
   rw [List.drop_eq_getElem_cons hi]
   by_cases h : L[i] = 0
   · simp (disch := omega) only [gds, firstN, h, ne_eq, not_true_eq_false, Int.natCast_add, Int.natCast_one] at ha ⊢
     exact ha
   · simp (disch := omega) only [gds, firstN, h, ne_eq, not_false_eq_true]
 · unfold cmp_Or_87.b0
   rw [List.drop_length]
   simp (disch := omega) only [gds, firstN]
abbrev oKs : List Sk := [.int .u32, .int .u8, .int .u64, .int .u64, .int .i64, .int .i64]
structure Og (d : D) : Prop where
 fit : Vk.fits ⟨true, oKs⟩ d = true
 hi : 0 ≤ (d.cell 2).i ∧ (d.cell 2).i < 18446744073709551616
 lo : 0 ≤ (d.cell 3).i ∧ (d.cell 3).i < 18446744073709551616
theorem Og.eta {d : D} (h : Og d) : D.agg (etaCells ks1 d 0) = d := eta_fit h.fit
def prefI (f h l len : Int) : Int := checkP f h.toNat l.toNat len
theorem check_i (f h l len : Int) (hh : 0 ≤ h ∧ h < 18446744073709551616) (hl : 0 ≤ l ∧ l < 18446744073709551616) : Cl ty tab 69 [.agg [.int .u8 f, .int .u64 h, .int .u64 l, .int .i64 len]] = some [.int .i64 (prefI f h l len)] := by
 have := check_prefix_ok f h.toNat l.toNat len ⟨by omega, by omega⟩
 simp only [P4, Int.toNat_of_nonneg hh.1, Int.toNat_of_nonneg hl.1] at this
 exact this
theorem prefI_ok {f h l len : Int} (hp : prefI f h l len = 0) : (f = 4 ∨ f = 6) ∧ 0 ≤ len ∧ len ≤ (widthF f : Nat) := by
 unfold prefI checkP at hp
 rcases widthF_cases f with h0 | h0
 · rw [if_pos h0] at hp; cases hp
 · have hw : ¬ widthF f = 0 := by rcases h0 with ⟨_, h⟩ | ⟨_, h⟩ <;> omega
   rw [if_neg hw] at hp
   split at hp
   · rename_i hc
     exact ⟨by rcases h0 with ⟨h, _⟩ | ⟨h, _⟩; exact .inl h; exact .inr h, hc.2.1, hc.2.2.1⟩
   · cases hp
def oNums (d : D) : List Int := [(d.cell 0).i, (d.cell 1).i, (d.cell 2).i, (d.cell 3).i, (d.cell 4).i, (d.cell 5).i]
def ordO (a b : D) : Int := cmpL (oNums a) (oNums b)
def ltO (a b : D) : Bool := decide (ordO a b < 0)
def goodO (d : D) : Bool := decide (prefI (d.cell 1).i (d.cell 2).i (d.cell 3).i (d.cell 4).i = 0 ∧ (d.cell 4).i ≤ (d.cell 5).i ∧ (d.cell 5).i ≤ (widthF (d.cell 1).i : Nat))
theorem ordO_first (a b : D) : ordO a b = firstN [sgn (a.cell 0).i (b.cell 0).i, sgn (a.cell 1).i (b.cell 1).i, sgn (a.cell 2).i (b.cell 2).i, sgn (a.cell 3).i (b.cell 3).i, sgn (a.cell 4).i (b.cell 4).i, sgn (a.cell 5).i (b.cell 5).i] := cmpL_first _ _
theorem firstN_mid (a b c d e f : Int) : firstN [a, b, firstN [c, d], e, f] = firstN [a, b, c, d, e, f] := by
 simp only [firstN]
 by_cases h1 : a = 0 <;> by_cases h2 : b = 0 <;> by_cases h3 : c = 0 <;> by_cases h4 : d = 0 <;> simp [h1, h2, h3, h4]
theorem byOrigin_ok (a b : D) (ha : Og a) (hb : Og b) : Cl ty tab 75 [a, b] = some [.int .i64 (ordO a b)] := by
 have := s_diff_byOrigin 0 a b (r := [.int .i64 (ordO a b)]) ?_
 · rwa [ha.eta, hb.eta] at this
 unfold diff_byOrigin
 have hor := fun n => or_ok n [sgn (a.cell 0).i (b.cell 0).i, sgn (a.cell 1).i (b.cell 1).i, firstN [sgn (a.cell 2).i (b.cell 2).i, sgn (a.cell 3).i (b.cell 3).i], sgn (a.cell 4).i (b.cell 4).i, sgn (a.cell 5).i (b.cell 5).i] (by simp)
 simp only [List.map_cons, List.map_nil] at hor
 simp (disch := omega) only [gds, cmp_u32, cmp_u8, addrC_ok, cmp_int, hor]
 rw [firstN_mid, ← ordO_first]
theorem goodOrigin_ok (d : D) (h : Og d) : Cl ty tab 76 [d] = some [.bool (goodO d)] := by
 have := s_diff_goodOrigin 0 d (r := [.bool (goodO d)]) ?_
 · rwa [h.eta] at this
 unfold diff_goodOrigin goodO
 have hc := check_i (d.cell 1).i (d.cell 2).i (d.cell 3).i (d.cell 4).i h.hi h.lo
 by_cases h6 : (d.cell 1).i = 6
 · have hw : ((widthF (d.cell 1).i : Nat) : Int) = 128 := by rw [h6]; rfl
   rw [hw]
   rw [h6] at hc ⊢
   by_cases h0 : prefI 6 (d.cell 2).i (d.cell 3).i (d.cell 4).i = 0
   · by_cases h1 : (d.cell 4).i ≤ (d.cell 5).i
     · simp (disch := omega) only [gds, hc, h0, h1, true_and]
     · simp (disch := omega) only [gds, hc, h0, h1, true_and, false_and]
   · simp (disch := omega) only [gds, hc, h0, false_and]
 · by_cases h0 : prefI (d.cell 1).i (d.cell 2).i (d.cell 3).i (d.cell 4).i = 0
   · have hw : ((widthF (d.cell 1).i : Nat) : Int) = 32 := by
      rcases (prefI_ok h0).1 with h | h
      · rw [h]; rfl
      · exact absurd h h6
     rw [hw]
     by_cases h1 : (d.cell 4).i ≤ (d.cell 5).i
     · simp (disch := omega) only [gds, hc, h6, h0, h1, true_and]
     · simp (disch := omega) only [gds, hc, h6, h0, h1, true_and, false_and]
   · simp (disch := omega) only [gds, hc, h6, h0, false_and]
end Go.Proofs.YtapfhcnigmighaaGreat.Own
namespace Go.Proofs.YtapfhcnigmighaaGreat.Own
open Go Go.Proofs.YtapfhcnigmighaaGreat.GD
abbrev kKs : List Sk := [.int .u32, .int .u8, .int .u8, .int .u8, .int .u8, .int .u8, .int .u8, .int .u8, .int .u8, .int .u8, .int .u8, .int .u8, .int .u8, .int .u8, .int .u8, .int .u8, .int .u8, .int .i64]
abbrev kKsE (d : D) (n : Nat) : List D := etaCells ks2 d n
abbrev rKsE (d : D) (n : Nat) : List D := etaCells ks5 d n
def rootN (d : D) (n : Nat) : List Int := (List.range 16).map fun j => (d.cell (n + j)).i
theorem rootN_len (d : D) (n : Nat) : (rootN d n).length = 16 := by simp [rootN]
theorem rootN_eta (d : D) (n : Nat) : rKsE d n = (rootN d n).map (D.int .u8) := rfl
structure Kg (d : D) : Prop where
 fit : Vk.fits ⟨true, kKs⟩ d = true
 rt : ∀ x, x ∈ rootN d 1 → 0 ≤ x ∧ x < 256
theorem Kg.eta {d : D} (h : Kg d) : D.agg (kKsE d 0) = d := eta_fit h.fit
def ordK (a b : D) : Int := cmpL ((a.cell 0).i :: (rootN a 1 ++ [(a.cell 17).i])) ((b.cell 0).i :: (rootN b 1 ++ [(b.cell 17).i]))
def ltK (a b : D) : Bool := decide (ordK a b < 0)
def goodK (d : D) : Bool := decide (0 ≤ (d.cell 17).i ∧ (d.cell 17).i ≤ 4)
theorem cmpL_app : ∀ (a b : List Int) (s t : List Int), a.length = b.length → cmpL (a ++ s) (b ++ t) = firstN [cmpL a b, cmpL s t]
 | [], [], s, t, _ => by
  show cmpL s t = firstN [0, cmpL s t]
  rw [firstN_cons, if_pos rfl, firstN_one]
 | x :: a, y :: b, s, t, h => by
  simp only [List.cons_append, cmpL_cons]
  rw [cmpL_app a b s t (by simpa using h)]
  by_cases e : sgn x y = 0
  · simp [e]
  · simp [e, firstN]
 | [], _ :: _, _, _, h => by simp at h
 | _ :: _, [], _, _, h => by simp at h
theorem cmpL_single (a b : Int) : cmpL [a] [b] = sgn a b := by
 rw [cmpL_cons]
 by_cases e : sgn a b = 0 <;> simp [e, cmpL]
theorem ordK_first (a b : D) : ordK a b = firstN [sgn (a.cell 0).i (b.cell 0).i, cmpL (rootN a 1) (rootN b 1), sgn (a.cell 17).i (b.cell 17).i] := by
 unfold ordK
 rw [cmpL_cons, cmpL_app _ _ _ _ (by rw [rootN_len, rootN_len]), cmpL_single]
 conv => rhs; rw [firstN_cons]
theorem goodKey_ok (d : D) (h : Kg d) : Cl ty tab 82 [d] = some [.bool (goodK d)] := by
 have := s_diff_goodKey 0 d (r := [.bool (goodK d)]) ?_
 · rwa [h.eta] at this
 unfold diff_goodKey goodK
 by_cases h0 : 0 ≤ (d.cell 17).i
 · simp (disch := omega) only [gds, h0, true_and]
 · simp (disch := omega) only [gds, h0, false_and]
theorem byKey_ok (a b : D) (ha : Kg a) (hb : Kg b) : Cl ty tab 81 [a, b] = some [.int .i64 (ordK a b)] := by
 have := s_diff_byKey 0 a b (r := [.int .i64 (ordK a b)]) ?_
 · rwa [ha.eta, hb.eta] at this
 unfold diff_byKey
 have hc := cmpB_cmpL (rootN a 1) (rootN b 1) (by rw [rootN_len, rootN_len]) ha.rt hb.rt
 have hb1 : Cl ty tab 93 [.sl 5 false (rKsE a 1), .sl 5 false (rKsE b 1)] = some [.int .i64 (cmpL (rootN a 1) (rootN b 1))] := by
  rw [s_bytes_Compare, rootN_eta, rootN_eta, ← hc]; rfl
 have hor := fun n => or_ok n [sgn (a.cell 0).i (b.cell 0).i, cmpL (rootN a 1) (rootN b 1), sgn (a.cell 17).i (b.cell 17).i] (by simp)
 simp only [List.map_cons, List.map_nil] at hor
 simp (disch := omega) only [gds, cmp_u32, cmp_int, hor, hb1]
 rw [← ordK_first]
structure Pg (d : D) : Prop where
 fit : Vk.fits ⟨true, [.int .u32, .sl 51]⟩ d = true
 els : ∃ L : List Int, (d.cell 1).els = L.map (D.int .u32) ∧ ∀ x, x ∈ L → 0 ≤ x ∧ x < 4294967296
 len : (d.cell 1).els.length ≤ 9223372036854775807
theorem Pg.eta {d : D} (h : Pg d) : D.agg [.int .u32 (d.cell 0).i, .sl 51 (d.cell 1).nb (d.cell 1).els] = d := eta_fit h.fit
def custP (d : D) : Int := (d.cell 0).i
def ltP (a b : D) : Bool := decide (custP a < custP b)
end Go.Proofs.YtapfhcnigmighaaGreat.Own
namespace Go.Proofs.YtapfhcnigmighaaGreat.Own
open Go Go.Proofs.YtapfhcnigmighaaGreat.GD
def at' (l : List D) (i : Nat) : Int := ((l.getD i .undef).cell 0).i
def idx (x : Int) : List D → Nat → Int
 | [], _ => -1
 | d :: t, i => if x = (d.cell 0).i then i else idx x t (i + 1)
theorem idx_pos (x : Int) : ∀ (l : List D) (i : Nat), (0 ≤ idx x l i ↔ ∃ d, d ∈ l ∧ (d.cell 0).i = x)
 | [], i => by simp [idx]
 | d :: t, i => by
  unfold idx
  by_cases h : x = (d.cell 0).i
  · rw [if_pos h]
    exact ⟨fun _ => ⟨d, List.mem_cons_self .., h.symm⟩, fun _ => by omega⟩
  · rw [if_neg h, idx_pos x t (i + 1)]
    constructor
    · rintro ⟨e, h1, h2⟩; exact ⟨e, List.mem_cons_of_mem _ h1, h2⟩
    · rintro ⟨e, h1, h2⟩
      rcases List.mem_cons.1 h1 with rfl | h1
      · exact absurd h2.symm h
      · exact ⟨e, h1, h2⟩
theorem indexN_ok (n : Bool) (l : List D) (x : Int) (hl : l.length ≤ 60000) : Cl ty tab 123 [.sl 51 n l, .int .u32 x] = some [.int .i64 (idx x l 0)] := by
 obtain ⟨k, hk⟩ := rounds
 refine s_slices_Index k _ _ _ ?_
 unfold slices_Index
 have := iter_ix (F := slices_Index.b0 (Cl ty tab) k l x) l.length (fun i => [.int .i64 i]) (fun i => some [.int .i64 (idx x (l.drop i) i)]) (fun i hi again ha => ?_) (fun again => ?_) k (by omega) 0 (by omega)
 · exact this
 · unfold slices_Index.b0
   rw [List.drop_eq_getElem_cons hi]
   unfold idx
   by_cases h : x = (l[i].cell 0).i
   · simp (disch := omega) only [gds, getD_get]
   · simp (disch := omega) only [gds, getD_get]
     exact ha
 · unfold slices_Index.b0
   rw [List.drop_length]
   simp (disch := omega) only [gds]
   rfl
theorem containsN_ok (n : Bool) (l : List D) (x : Int) (hl : l.length ≤ 60000) : Cl ty tab 64 [.sl 51 n l, .int .u32 x] = some [.bool (decide (0 ≤ idx x l 0))] := by
 refine s_slices_Contains 0 _ _ _ ?_
 unfold slices_Contains
 simp (disch := omega) only [gds, indexN_ok n l x hl]
def up (l : List D) (i : Nat) : Prop := ∀ j, i ≤ j → j < l.length → at' l (j - 1) < at' l j
theorem up_step {l : List D} {i : Nat} (hi : i < l.length) : up l i ↔ at' l (i - 1) < at' l i ∧ up l (i + 1) := by
 constructor
 · intro h
   exact ⟨h i (Nat.le_refl _) hi, fun j h1 h2 => h j (by omega) h2⟩
 · rintro ⟨h1, h2⟩ j h3 h4
   rcases Nat.lt_or_ge i j with h | h
   · exact h2 j h h4
   · have : j = i := by omega
     subst this; exact h1
open Classical in
noncomputable def okR (b : Bool) (p : Prop) : List D := if b = true ∧ p then [.int .i64 0] else [.int .i64 8]
theorem aspaLoop_ok (k : Nat) (hk : 9223372036854775808 < k) (x : Int) (n : Bool) (l : List D) (hl : l.length ≤ 50) (b : Bool) : iter k (aspa_Check.b0 (Cl ty tab) k) [.bool b, .int .i64 1, .pv [.int .u32 x, .sl 51 n l]] = some (okR b (up l 1)) := by
 have := iter_wf (F := aspa_Check.b0 (Cl ty tab) k) (σ := Bool × Nat) (fun q => [.bool q.1, .int .i64 q.2, .pv [.int .u32 x, .sl 51 n l]]) (fun q => some (okR q.1 (up l q.2))) (fun q => l.length - q.2) (fun q => 1 ≤ q.2 ∧ q.2 ≤ 60)
  (fun q hq again hag => ?_) k (b, 1) ⟨by simp only; omega, by simp only; omega⟩ (by simp only; omega)
 · exact this
 · obtain ⟨b, i⟩ := q
   obtain ⟨h1, h2⟩ := hq
   simp only at h1 h2 hag ⊢
   unfold aspa_Check.b0
   by_cases hi : i < l.length
   · cases b with
     | false =>
      have := hag (false, i + 1) ⟨by simp only; omega, by simp only; omega⟩ (by simp only; omega)
      have e : okR false (up l i) = okR false (up l (i + 1)) := by unfold okR; rw [if_neg (by simp), if_neg (by simp)]
      rw [e]
      clear e hag
      simp (disch := omega) only [gds, Int.natCast_add, Int.natCast_one] at this ⊢
      exact this
     | true =>
      have := hag (decide (at' l (i - 1) < at' l i), i + 1) ⟨by simp only; omega, by simp only; omega⟩ (by simp only; omega)
      have e : okR true (up l i) = okR (decide (at' l (i - 1) < at' l i)) (up l (i + 1)) := by
       unfold okR
       rw [up_step hi]
       congr 1
       simp
      have e1 : ∀ j, ((l.getD j .undef).cell 0).i = at' l j := fun j => rfl
      rw [e]
      clear e hag
      simp (disch := omega) only [gds, Int.natCast_add, Int.natCast_one, e1] at this ⊢
      exact this
   · have e : okR b (up l i) = if b = true then [.int .i64 0] else [.int .i64 8] := by
      unfold okR
      have : up l i := fun j h3 h4 => by omega
      cases b <;> simp [this]
     rw [e]
     clear e hag
     cases b <;> simp (disch := omega) only [gds]
def Good (x : Int) (l : List D) : Prop := x ≠ 0 ∧ l ≠ [] ∧ (∀ i, i < l.length → at' l i ≠ x) ∧ (l.length = 1 ∨ at' l 0 ≠ 0) ∧ up l 1
open Classical in
noncomputable def chkA (x : Int) (l : List D) : Int := if 50 < l.length then 4 else if Good x l then 0 else 8
theorem chk4 {x : Int} {l : List D} (h : 50 < l.length) : chkA x l = 4 := by unfold chkA; rw [if_pos h]
theorem chk0 {x : Int} {l : List D} (h : ¬ 50 < l.length) (h2 : Good x l) : chkA x l = 0 := by unfold chkA; rw [if_neg h, if_pos h2]
theorem chk8 {x : Int} {l : List D} (h : ¬ 50 < l.length) (h2 : ¬ Good x l) : chkA x l = 8 := by unfold chkA; rw [if_neg h, if_neg h2]
theorem mem_at {l : List D} {x : Int} : (∃ d, d ∈ l ∧ (d.cell 0).i = x) ↔ ∃ i, i < l.length ∧ at' l i = x := by
 constructor
 · rintro ⟨d, h1, h2⟩
   obtain ⟨i, hi, rfl⟩ := List.mem_iff_getElem.1 h1
   exact ⟨i, hi, by unfold at'; rw [getD_get hi]; exact h2⟩
 · rintro ⟨i, hi, h⟩
   exact ⟨l[i], List.getElem_mem hi, by unfold at' at h; rwa [getD_get hi] at h⟩
theorem aspaCheck_ok (x : Int) (n : Bool) (l : List D) (hx : 0 ≤ x) (h0 : l.length ≤ 80) (hl : 0 ≤ at' l 0) : Cl ty tab 135 [.agg [.int .u32 x, .sl 51 n l]] = some [.int .i64 (chkA x l)] := by
 obtain ⟨k, hk⟩ := rounds
 refine s_aspa_Check k _ _ _ ?_
 unfold aspa_Check
 by_cases h1 : 50 < l.length
 · rw [chk4 h1]; simp (disch := omega) only [gds]
 have lp := aspaLoop_ok k hk x n l (by omega)
 have lp1 : ∀ b, iter k (aspa_Check.b0_1 (Cl ty tab) k) [.bool b, .int .i64 1, .pv [.int .u32 x, .sl 51 n l]] = some (okR b (up l 1)) := lp
 have lp2 : ∀ b, iter k (aspa_Check.b0_2 (Cl ty tab) k) [.bool b, .int .i64 1, .pv [.int .u32 x, .sl 51 n l]] = some (okR b (up l 1)) := lp
 have lp3 : ∀ b, iter k (aspa_Check.b0_3 (Cl ty tab) k) [.bool b, .int .i64 1, .pv [.int .u32 x, .sl 51 n l]] = some (okR b (up l 1)) := lp
 have lp4 : ∀ b, iter k (aspa_Check.b0_4 (Cl ty tab) k) [.bool b, .int .i64 1, .pv [.int .u32 x, .sl 51 n l]] = some (okR b (up l 1)) := lp
 have off : okR false (up l 1) = [.int .i64 8] := by unfold okR; rw [if_neg (by simp)]
 by_cases h2 : 0 < x
 case neg =>
  rw [chk8 h1 (fun h => h.1 (by omega))]
  simp (disch := omega) only [gds, lp4, off]
 by_cases h3 : 0 < l.length
 case neg =>
  have h3' : l = [] := List.length_eq_zero_iff.1 (by omega)
  rw [chk8 h1 (fun h => h.2.1 h3')]
  simp (disch := omega) only [gds, lp3, off]
 have h3' : l ≠ [] := fun e => by rw [e] at h3; simp at h3
 have hc := containsN_ok n l x (by omega)
 by_cases h4 : 0 ≤ idx x l 0
 · obtain ⟨i, hi, e⟩ := mem_at.1 ((idx_pos x l 0).1 h4)
   rw [chk8 h1 (fun h => h.2.2.1 i hi e)]
   simp (disch := omega) only [gds, hc, lp2, off]
 have h4' : ∀ i, i < l.length → at' l i ≠ x := fun i hi e => h4 ((idx_pos x l 0).2 (mem_at.2 ⟨i, hi, e⟩))
 by_cases h5 : l.length = 1
 · have e : okR true (up l 1) = [.int .i64 0] := by unfold okR; rw [if_pos ⟨rfl, fun j a b => by omega⟩]
   rw [chk0 h1 ⟨by omega, h3', h4', .inl h5, fun j a b => by omega⟩]
   simp (disch := omega) only [gds, hc, lp, e]
 · have e1 : ((l.getD 0 .undef).cell 0).i = at' l 0 := rfl
   by_cases h6 : at' l 0 = 0
   · rw [chk8 h1 (fun h => h.2.2.2.1.elim h5 (fun h => h h6))]
     have e2 : decide (0 < at' l 0) = false := by rw [h6]; rfl
     simp (disch := omega) only [gds, hc, lp1, e1, e2, off]
   · have e2 : decide (0 < at' l 0) = true := by rw [decide_eq_true_eq]; omega
     by_cases h7 : up l 1
     · rw [chk0 h1 ⟨by omega, h3', h4', .inr h6, h7⟩]
       have e : okR true (up l 1) = [.int .i64 0] := by unfold okR; rw [if_pos ⟨rfl, h7⟩]
       simp (disch := omega) only [gds, hc, lp1, e1, e2, e]
     · rw [chk8 h1 (fun h => h7 h.2.2.2.2)]
       have e : okR true (up l 1) = [.int .i64 8] := by unfold okR; rw [if_neg (fun h => h7 h.2)]
       simp (disch := omega) only [gds, hc, lp1, e1, e2, e]
def fit (x : Int) (l : List D) (i : Nat) : Prop := ∀ j, i ≤ j → j < l.length → at' l j ≠ x ∧ (0 < j → at' l (j - 1) < at' l j)
end Go.Proofs.YtapfhcnigmighaaGreat.Own
namespace Go.Proofs.YtapfhcnigmighaaGreat.Own
open Go Go.Proofs.YtapfhcnigmighaaGreat.GD
noncomputable def goodP (d : D) : Bool := decide (chkA (custP d) (d.cell 1).els = 0)
def ordP (a b : D) : Int := sgn (custP a) (custP b)
theorem ltP_ord (a b : D) : ltP a b = decide (ordP a b < 0) := by unfold ltP ordP; simp only [sgn_lt]
structure Pn (d : D) : Prop where
 pg : Pg d
 cu : 0 ≤ custP d
 len : (d.cell 1).els.length ≤ 80
 fst : 0 ≤ at' (d.cell 1).els 0
theorem pn_of {d : D} (h : Pg d) (hc : 0 ≤ custP d) (hl : (d.cell 1).els.length ≤ 80) : Pn d := ⟨h, hc, hl, by
 obtain ⟨L, e, hL⟩ := h.els
 unfold at'
 rw [e]
 cases L with
 | nil => simp [D.cell, D.i]
 | cons x t => have := hL x (by simp); simpa using this.1⟩
theorem byPath_ok (a b : D) (ha : Pg a) (hb : Pg b) : Cl ty tab 78 [a, b] = some [.int .i64 (ordP a b)] := by
 have := s_diff_byPath 0 (custP a) (a.cell 1).nb (a.cell 1).els (custP b) (b.cell 1).nb (b.cell 1).els (r := [.int .i64 (ordP a b)]) ?_
 · unfold custP at this; rwa [ha.eta, hb.eta] at this
 unfold diff_byPath ordP
 simp (disch := omega) only [gds, cmp_u32]
theorem goodPath_ok (d : D) (h : Pn d) : Cl ty tab 79 [d] = some [.bool (goodP d)] := by
 have := s_diff_goodPath 0 (custP d) (d.cell 1).nb (d.cell 1).els (r := [.bool (goodP d)]) ?_
 · unfold custP at this; rwa [h.pg.eta] at this
 unfold diff_goodPath goodP
 simp (disch := omega) only [gds, aspaCheck_ok (custP d) (d.cell 1).nb (d.cell 1).els h.cu h.len h.fst]
theorem risingO_ok (n : Bool) (l : List D) (hl : ∀ d, d ∈ l → Og d) (hn : l.length ≤ 9223372036854775807) : Cl ty tab 74 [.sl 58 n l, .fn 75 [], .fn 76 []] = some [.bool (risF goodO ltO l)] := by
 obtain ⟨k, hk⟩ := rounds
 refine s_diff_rising_74 k _ _ ?_
 unfold diff_rising_74
 have hE : ∀ d, d ∈ l → D.agg (etaCells ks1 d 0) = d := fun d hd => (hl d hd).eta
 have := ris_loop (F := diff_rising_74.b0 (Cl ty tab) k l) l goodO ltO (fun i => [.int .i64 i]) (some [.bool false]) (some [.bool true]) (fun i hi again => ?_) (fun again => ?_) k (by omega)
 · simp only [Int.natCast_zero] at this
   rw [this]
   cases risF goodO ltO l <;> rfl
 · unfold diff_rising_74.b0
   have e0 := hE l[i] (List.getElem_mem hi)
   have g0 := goodOrigin_ok l[i] (hl _ (List.getElem_mem hi))
   cases hg : goodO l[i]
   · simp (disch := omega) only [gds, getD_get, e0, g0, hg, false_and]
   · by_cases h0 : i = 0
     · subst h0
       simp (disch := omega) only [gds, getD_get, e0, g0, hg, true_and, true_or, Int.natCast_zero, Int.toNat_zero, Int.zero_add, Int.natCast_one]
     · have hi1 : i - 1 < l.length := by omega
       have e1 := hE l[i - 1] (List.getElem_mem hi1)
       have o1 := byOrigin_ok l[i - 1] l[i] (hl _ (List.getElem_mem hi1)) (hl _ (List.getElem_mem hi))
       have el : ltO l[i - 1] l[i] = decide (ordO l[i - 1] l[i] < 0) := rfl
       by_cases hlt : ordO l[i - 1] l[i] < 0
       · simp (disch := omega) only [gds, getD_get, e0, e1, o1, g0, hg, true_and, false_or, h0, el, hlt, Int.natCast_add, Int.natCast_one]
       · simp (disch := omega) only [gds, getD_get, e0, e1, o1, g0, hg, true_and, false_or, h0, el, hlt, Int.natCast_add, Int.natCast_one]
 · unfold diff_rising_74.b0
   simp (disch := omega) only [gds]
theorem risingK_ok (n : Bool) (l : List D) (hl : ∀ d, d ∈ l → Kg d) (hn : l.length ≤ 9223372036854775807) : Cl ty tab 80 [.sl 64 n l, .fn 81 [], .fn 82 []] = some [.bool (risF goodK ltK l)] := by
 obtain ⟨k, hk⟩ := rounds
 refine s_diff_rising_80 k _ _ ?_
 unfold diff_rising_80
 have hE : ∀ d, d ∈ l → D.agg (etaCells ks2 d 0) = d := fun d hd => (hl d hd).eta
 have := ris_loop (F := diff_rising_80.b0 (Cl ty tab) k l) l goodK ltK (fun i => [.int .i64 i]) (some [.bool false]) (some [.bool true]) (fun i hi again => ?_) (fun again => ?_) k (by omega)
 · simp only [Int.natCast_zero] at this
   rw [this]
   cases risF goodK ltK l <;> rfl
 · unfold diff_rising_80.b0
   have e0 := hE l[i] (List.getElem_mem hi)
   have g0 := goodKey_ok l[i] (hl _ (List.getElem_mem hi))
   cases hg : goodK l[i]
   · simp (disch := omega) only [gds, getD_get, e0, g0, hg, false_and]
   · by_cases h0 : i = 0
     · subst h0
       simp (disch := omega) only [gds, getD_get, e0, g0, hg, true_and, true_or, Int.natCast_zero, Int.toNat_zero, Int.zero_add, Int.natCast_one]
     · have hi1 : i - 1 < l.length := by omega
       have e1 := hE l[i - 1] (List.getElem_mem hi1)
       have o1 := byKey_ok l[i - 1] l[i] (hl _ (List.getElem_mem hi1)) (hl _ (List.getElem_mem hi))
       have el : ltK l[i - 1] l[i] = decide (ordK l[i - 1] l[i] < 0) := rfl
       by_cases hlt : ordK l[i - 1] l[i] < 0
       · simp (disch := omega) only [gds, getD_get, e0, e1, o1, g0, hg, true_and, false_or, h0, el, hlt, Int.natCast_add, Int.natCast_one]
       · simp (disch := omega) only [gds, getD_get, e0, e1, o1, g0, hg, true_and, false_or, h0, el, hlt, Int.natCast_add, Int.natCast_one]
 · unfold diff_rising_80.b0
   simp (disch := omega) only [gds]
theorem risingP_ok (n : Bool) (l : List D) (hl : ∀ d, d ∈ l → Pn d) (hn : l.length ≤ 9223372036854775807) : Cl ty tab 77 [.sl 84 n l, .fn 78 [], .fn 79 []] = some [.bool (risF goodP ltP l)] := by
 obtain ⟨k, hk⟩ := rounds
 refine s_diff_rising_77 k _ _ ?_
 unfold diff_rising_77
 have hE : ∀ d, d ∈ l → D.agg [.int .u32 (d.cell 0).i, .sl 51 (d.cell 1).nb (d.cell 1).els] = d := fun d hd => (hl d hd).pg.eta
 have := ris_loop (F := diff_rising_77.b0 (Cl ty tab) k l) l goodP ltP (fun i => [.int .i64 i]) (some [.bool false]) (some [.bool true]) (fun i hi again => ?_) (fun again => ?_) k (by omega)
 · simp only [Int.natCast_zero] at this
   rw [this]
   cases risF goodP ltP l <;> rfl
 · unfold diff_rising_77.b0
   have e0 := hE l[i] (List.getElem_mem hi)
   have g0 := goodPath_ok l[i] (hl _ (List.getElem_mem hi))
   cases hg : goodP l[i]
   · simp (disch := omega) only [gds, getD_get, e0, g0, hg, false_and]
   · by_cases h0 : i = 0
     · subst h0
       simp (disch := omega) only [gds, getD_get, e0, g0, hg, true_and, true_or, Int.natCast_zero, Int.toNat_zero, Int.zero_add, Int.natCast_one]
     · have hi1 : i - 1 < l.length := by omega
       have e1 := hE l[i - 1] (List.getElem_mem hi1)
       have o1 := byPath_ok l[i - 1] l[i] (hl _ (List.getElem_mem hi1)).pg (hl _ (List.getElem_mem hi)).pg
       have el : ltP l[i - 1] l[i] = decide (ordP l[i - 1] l[i] < 0) := ltP_ord _ _
       by_cases hlt : ordP l[i - 1] l[i] < 0
       · simp (disch := omega) only [gds, getD_get, e0, e1, o1, g0, hg, true_and, false_or, h0, el, hlt, Int.natCast_add, Int.natCast_one]
       · simp (disch := omega) only [gds, getD_get, e0, e1, o1, g0, hg, true_and, false_or, h0, el, hlt, Int.natCast_add, Int.natCast_one]
 · unfold diff_rising_77.b0
   simp (disch := omega) only [gds]
structure Pay (o p q : List D) : Prop where
 ho : ∀ d, d ∈ o → Og d
 hp : ∀ d, d ∈ p → Pg d ∧ 0 ≤ custP d
 hq : ∀ d, d ∈ q → Kg d
 no : o.length ≤ 9223372036854775807
 np : p.length ≤ 9223372036854775807
 nq : q.length ≤ 9223372036854775807
def longP (p : List D) : Bool := p.any fun d => decide (50 < (d.cell 1).els.length)
noncomputable def payC (o p q : List D) : Int :=
 if 1000 < o.length ∨ 300 < p.length ∨ 100 < q.length ∨ longP p = true then 4 else if risF goodO ltO o = true ∧ risF goodP ltP p = true ∧ risF goodK ltK q = true then 0 else 8
def idxL : List D → Nat → Int
 | [], _ => -1
 | d :: t, i => if 50 < (d.cell 1).els.length then i else idxL t (i + 1)
theorem idxL_long : ∀ (l : List D) (i : Nat), decide (0 ≤ idxL l i) = longP l
 | [], i => rfl
 | d :: t, i => by
  simp only [idxL, longP, List.any_cons]
  by_cases h : 50 < (d.cell 1).els.length
  · simp [h]
  · have := idxL_long t (i + 1)
    simp only [longP] at this
    simp [h, this]
theorem hasLong_ok (n : Bool) (l : List D) (hl : ∀ d, d ∈ l → Pg d) (hn : l.length ≤ 9223372036854775807) : Cl ty tab 72 [.sl 84 n l, .fn 73 []] = some [.bool (longP l)] := by
 obtain ⟨k, hk⟩ := rounds
 have h1 : Cl ty tab 132 [.sl 84 n l, .fn 73 []] = some [.int .i64 (idxL l 0)] := by
  refine s_slices_IndexFunc_132_v2 k _ _ ?_
  unfold slices_IndexFunc_132_v2
  have := iter_ix (F := slices_IndexFunc_132_v2.b0 (Cl ty tab) k l) l.length (fun i => [.int .i64 i]) (fun i => some [.int .i64 (idxL (l.drop i) i)]) (fun i hi again ha => ?_) (fun again => ?_) k (by omega) 0 (by omega)
  · exact this
  · unfold slices_IndexFunc_132_v2.b0
    rw [List.drop_eq_getElem_cons hi]
    have e0 := (hl l[i] (List.getElem_mem hi)).eta
    have c0 : Cl ty tab 73 [l[i]] = some [.bool (decide (50 < (l[i].cell 1).els.length))] := by
     have := s_diff_Check_1 0 (l[i].cell 0).i (l[i].cell 1).nb (l[i].cell 1).els (r := [.bool (decide (50 < (l[i].cell 1).els.length))]) ?_
     · rwa [e0] at this
     unfold diff_Check_1
     congr 3
     simp only [decide_eq_decide]
     omega
    unfold idxL
    by_cases h : 50 < (l[i].cell 1).els.length
    · simp (disch := omega) only [gds, getD_get, e0, c0, h]
    · simp (disch := omega) only [gds, getD_get, e0, c0, h, Int.natCast_add, Int.natCast_one] at ha ⊢
      exact ha
  · unfold slices_IndexFunc_132_v2.b0
    rw [List.drop_length]
    simp (disch := omega) only [gds, idxL]
 refine s_slices_ContainsFunc_72 0 _ _ ?_
 unfold slices_ContainsFunc_72
 simp (disch := omega) only [gds, h1, idxL_long]
theorem long_len {p : List D} (h : longP p = false) : ∀ d, d ∈ p → (d.cell 1).els.length ≤ 50 := fun d hd => by
 unfold longP at h
 rw [List.any_eq_false] at h
 have := h d hd
 simp at this
 omega
theorem diffCheck_ok (n m t : Bool) (o p q : List D) (h : Pay o p q) : Cl ty tab 29 [.agg [.sl 58 n o, .sl 84 m p, .sl 64 t q]] = some [.int .i64 (payC o p q)] := by
 refine s_diff_Check 0 _ _ _ _ _ _ ?_
 unfold diff_Check payC
 by_cases h1 : 1000 < o.length
 · simp (disch := omega) only [gds, h1, true_or]
 by_cases h2 : 300 < p.length
 · simp (disch := omega) only [gds, h1, h2, true_or, or_true]
 by_cases h3 : 100 < q.length
 · simp (disch := omega) only [gds, h1, h2, h3, true_or, or_true]
 have hL := hasLong_ok m p (fun d hd => (h.hp d hd).1) h.np
 cases h4 : longP p
 case true => simp (disch := omega) only [gds, h1, h2, h3, hL, h4, or_true]
 have rO := risingO_ok n o h.ho h.no
 have rP := risingP_ok m p (fun d hd => pn_of (h.hp d hd).1 (h.hp d hd).2 (by have := long_len h4 d hd; omega)) h.np
 have rK := risingK_ok t q h.hq h.nq
 cases h5 : risF goodO ltO o
 case false => simp (disch := omega) only [gds, h1, h2, h3, hL, h4, or_self, rO, h5, false_and]
 cases h6 : risF goodP ltP p
 case false => simp (disch := omega) only [gds, h1, h2, h3, hL, h4, or_self, rO, rP, h5, h6, false_and, and_false]
 cases h7 : risF goodK ltK q
 case false => simp (disch := omega) only [gds, h1, h2, h3, hL, h4, or_self, rO, rP, rK, h5, h6, h7, false_and, and_false]
 simp (disch := omega) only [gds, h1, h2, h3, hL, h4, or_self, rO, rP, rK, h5, h6, h7, and_self]
end Go.Proofs.YtapfhcnigmighaaGreat.Own
namespace Go.Proofs.YtapfhcnigmighaaGreat.Own
open Go Go.Proofs.YtapfhcnigmighaaGreat.GD
abbrev payD (n m t : Bool) (o p q : List D) : D := .agg [.sl 58 n o, .sl 84 m p, .sl 64 t q]
abbrev payV (n m t : Bool) (o p q : List D) : D := .pv [.sl 58 n o, .sl 84 m p, .sl 64 t q]
section
variable (k : Nat) (hk : 9223372036854775808 < k) (n m t : Bool) (o p q : List D) (h : Pay o p q)
include hk h
end
theorem great34_ok (a b : Int) (hb : 0 ≤ b ∧ b ≤ 100000) : Cl ty tab 51 [.int .i64 a, .int .i64 b] = some [.bool (decide ((30 < a ∧ a ≤ b) ∨ b + 10 < a))] := by
 refine s_gatepathref34_great 0 _ _ ?_
 unfold gatepathref34_great
 by_cases h1 : 30 < a
 · by_cases h2 : a ≤ b
   · simp (disch := omega) only [gds, h1, h2, true_and, true_or]
   · simp (disch := omega) only [gds, h1, h2, false_or, and_false]
 · simp (disch := omega) only [gds, h1, false_and, false_or]
structure Small (o p q : List D) : Prop where
 ho : o.length ≤ 1010
 hp : p.length ≤ 310
 hq : q.length ≤ 110
 els : ∀ d, d ∈ p → (d.cell 1).els.length ≤ 60
theorem Great34_ok (n m t : Bool) (o p q : List D) (h : Pay o p q) : ∃ b, Cl ty tab 16 [payD n m t o p q] = some [.bool b] ∧ (b = false → Small o p q) := by
 obtain ⟨k, hk⟩ := rounds
 have hn := h.np
 by_cases h1 : (30 < (o.length : Int) ∧ (o.length : Int) ≤ 1000) ∨ (1000 : Int) + 10 < (o.length : Int)
 · refine ⟨true, s_gatepathref34_Great k _ _ _ _ _ _ ?_, fun h => by cases h⟩
   unfold gatepathref34_Great
   simp (disch := omega) only [gds, great34_ok, h1]
 by_cases h2 : (30 < (p.length : Int) ∧ (p.length : Int) ≤ 300) ∨ (300 : Int) + 10 < (p.length : Int)
 · refine ⟨true, s_gatepathref34_Great k _ _ _ _ _ _ ?_, fun h => by cases h⟩
   unfold gatepathref34_Great
   simp (disch := omega) only [gds, great34_ok, h1, h2]
 by_cases h3 : (30 < (q.length : Int) ∧ (q.length : Int) ≤ 100) ∨ (100 : Int) + 10 < (q.length : Int)
 · refine ⟨true, s_gatepathref34_Great k _ _ _ _ _ _ ?_, fun h => by cases h⟩
   unfold gatepathref34_Great
   simp (disch := omega) only [gds, great34_ok, h1, h2, h3]
 have hx := all_loop (F := gatepathref34_Great.b0 (Cl ty tab) k) p.length (fun i => decide ((((p.getD i .undef).cell 1).els).length ≤ 60)) (fun i => [.int .i64 i, payV n m t o p q]) (some [.bool true]) (some [.bool false]) (fun i hi again => ?_) (fun again => ?_) k (by omega)
 · obtain ⟨b, hb, hb2⟩ := hx
   refine ⟨!b, s_gatepathref34_Great k _ _ _ _ _ _ ?_, fun hf => ?_⟩
   · unfold gatepathref34_Great
     simp only [Int.natCast_zero] at hb
     simp (disch := omega) only [gds, great34_ok, h1, h2, h3, hb]
     cases b <;> rfl
   · have := hb2.1 (by simpa using hf)
     refine ⟨by omega, by omega, by omega, fun d hd => ?_⟩
     obtain ⟨i, hi, rfl⟩ := List.getElem_of_mem hd
     have := this i hi
     rw [getD_get hi] at this
     simpa using this
 · unfold gatepathref34_Great.b0
   by_cases h4 : 60 < (p[i].cell 1).els.length
   · have h5 : ¬ (p[i].cell 1).els.length ≤ 60 := by omega
     simp (disch := omega) only [gds, getD_get, h4, h5]
   · have h5 : (p[i].cell 1).els.length ≤ 60 := by omega
     simp (disch := omega) only [gds, getD_get, h4, h5, Int.natCast_add, Int.natCast_one]
 · unfold gatepathref34_Great.b0
   simp (disch := omega) only [gds]
def pk (d : D) : Int × List D := (custP d, (d.cell 1).els)
theorem samePath_ok (a b : D) (ha : Pg a) (hb : Pg b) : ∃ r, Cl ty tab 67 [a, b] = some [.bool r] ∧ (r = true ↔ pk a = pk b) := by
 obtain ⟨k, hk⟩ := rounds
 have key : ∀ r, gatepathref34_SamePath (Cl ty tab) k (custP a) (a.cell 1).nb (a.cell 1).els (custP b) (b.cell 1).nb (b.cell 1).els = some [.bool r] → Cl ty tab 67 [a, b] = some [.bool r] := fun r hr => by
  have := s_gatepathref34_SamePath k (custP a) (a.cell 1).nb (a.cell 1).els (custP b) (b.cell 1).nb (b.cell 1).els hr
  unfold custP at this
  rwa [ha.eta, hb.eta] at this
 unfold gatepathref34_SamePath at key
 have hla := ha.len
 obtain ⟨La, ea, _⟩ := ha.els
 obtain ⟨Lb, eb, _⟩ := hb.els
 by_cases h1 : custP a = custP b
 case neg =>
  refine ⟨false, key _ ?_, by simp [pk, h1]⟩
  simp (disch := omega) only [gds, h1, ne_eq, not_false_eq_true]
 by_cases h2 : (a.cell 1).els.length = (b.cell 1).els.length
 case neg =>
  refine ⟨false, key _ ?_, ?_⟩
  · have : ¬ (((a.cell 1).els.length : Nat) : Int) = (((b.cell 1).els.length : Nat) : Int) := by omega
    simp (disch := omega) only [gds, h1, this, ne_eq, not_false_eq_true, not_true_eq_false]
  · simp only [pk, Prod.mk.injEq]
    constructor
    · intro h; cases h
    · rintro ⟨_, h⟩; exact absurd (by rw [h]) h2
 have hx := all_loop (F := gatepathref34_SamePath.b0 (Cl ty tab) k) (a.cell 1).els.length (fun i => decide ((((a.cell 1).els.getD i .undef).cell 0).i = (((b.cell 1).els.getD i .undef).cell 0).i))
  (fun i => [.int .i64 i, .pv [.int .u32 (custP a), .sl 51 (a.cell 1).nb (a.cell 1).els], .pv [.int .u32 (custP b), .sl 51 (b.cell 1).nb (b.cell 1).els]]) (some [.bool false]) (some [.bool true]) (fun i hi again => ?_) (fun again => ?_) k (by omega)
 · obtain ⟨r, hr, hr2⟩ := hx
   refine ⟨r, key _ ?_, ?_⟩
   · simp only [Int.natCast_zero, h1] at hr
     have : (((a.cell 1).els.length : Nat) : Int) = (((b.cell 1).els.length : Nat) : Int) := by omega
     simp (disch := omega) only [gds, h1, this, hr, ne_eq, not_true_eq_false]
     cases r <;> rfl
   · rw [hr2]
     simp only [pk, h1, Prod.mk.injEq, true_and, decide_eq_true_eq]
     constructor
     · intro h
       apply List.ext_getElem h2
       intro i h3 h4
       have := h i h3
       rw [getD_get h3, getD_get h4] at this
       simp only [ea, eb, List.getElem_map] at this ⊢
       simpa using this
     · intro h i hi; rw [h]
 · unfold gatepathref34_SamePath.b0
   by_cases h3 : (((a.cell 1).els.getD i .undef).cell 0).i = (((b.cell 1).els.getD i .undef).cell 0).i
   · simp (disch := omega) only [gds, h3, ne_eq, not_true_eq_false, Int.natCast_add, Int.natCast_one]
   · simp (disch := omega) only [gds, h3, ne_eq, not_false_eq_true, Int.natCast_add, Int.natCast_one]
 · unfold gatepathref34_SamePath.b0
   simp (disch := omega) only [gds]
theorem all_eq_iff {l m : List D} (h : l.length = m.length) {p : D → D → Prop} (hp : ∀ a b, a ∈ l → b ∈ m → (p a b ↔ a = b)) : (∀ i, i < l.length → p (l.getD i .undef) (m.getD i .undef)) ↔ l = m := by
 constructor
 · intro H
   apply List.ext_getElem h
   intro i h1 h2
   have := H i h1
   rw [getD_get h1, getD_get h2] at this
   exact (hp _ _ (List.getElem_mem h1) (List.getElem_mem h2)).1 this
 · rintro rfl i hi
   rw [getD_get hi]
   exact (hp _ _ (List.getElem_mem hi) (List.getElem_mem hi)).2 rfl
theorem all_pk_iff {l m : List D} (h : l.length = m.length) : (∀ i, i < l.length → pk (l.getD i .undef) = pk (m.getD i .undef)) ↔ l.map pk = m.map pk := by
 constructor
 · intro H
   apply List.ext_getElem (by simpa using h)
   intro i h1 h2
   simp only [List.length_map] at h1 h2
   have := H i h1
   rw [getD_get h1, getD_get h2] at this
   simpa using this
 · intro H i hi
   have hi2 : i < m.length := by omega
   rw [getD_get hi, getD_get hi2]
   have e1 : (l.map pk)[i]'(by simpa using hi) = pk l[i] := by simp
   have e2 : (m.map pk)[i]'(by simpa using hi2) = pk m[i] := by simp
   rw [← e1, ← e2]
   simp only [H]
section
variable (k : Nat) (hk : 9223372036854775808 < k) (n m t n' m' t' : Bool) (o p q o' p' q' : List D) (h : Pay o p q) (h' : Pay o' p' q')
include hk h h'
theorem same34b2 (hl : q.length = q'.length) : ∃ r : Bool, iter k (gatepathref34_Same.b2 (Cl ty tab) k) [.int .i64 0, payV n m t o p q, payV n' m' t' o' p' q'] = some [.bool r] ∧ (r = true ↔ q = q') := by
 have hn := h.nq
 have hx := all_loop (F := gatepathref34_Same.b2 (Cl ty tab) k) q.length (fun i => eqCells (kKsE (q.getD i .undef) 0) (kKsE (q'.getD i .undef) 0)) (fun i => [.int .i64 i, payV n m t o p q, payV n' m' t' o' p' q']) (some [.bool false]) (some [.bool true]) (fun i hi again => ?_) (fun again => ?_) k (by omega)
 · obtain ⟨r, hr, hr2⟩ := hx
   refine ⟨r, ?_, hr2.trans ?_⟩
   · simp only [Int.natCast_zero] at hr
     rw [hr]; cases r <;> rfl
   · exact all_eq_iff hl (p := fun a b => eqCells (kKsE a 0) (kKsE b 0) = true) fun a b ha hb => eqCells_eta (ks := kKs) (by decide) (h.hq a ha).fit (h'.hq b hb).fit
 · unfold gatepathref34_Same.b2
   have hi' : i < q'.length := by omega
   cases hc : eqCells (kKsE (q.getD i .undef) 0) (kKsE (q'.getD i .undef) 0)
   · simp (disch := omega) only [gds, hc, Int.natCast_add, Int.natCast_one]
   · simp (disch := omega) only [gds, hc, Int.natCast_add, Int.natCast_one]
 · unfold gatepathref34_Same.b2
   simp (disch := omega) only [gds]
theorem same34b1 (hp : p.length = p'.length) (hl : q.length = q'.length) : ∃ r : Bool, iter k (gatepathref34_Same.b1 (Cl ty tab) k) [.int .i64 0, payV n m t o p q, payV n' m' t' o' p' q'] = some [.bool r] ∧ (r = true ↔ p.map pk = p'.map pk ∧ q = q') := by
 have hn := h.np
 obtain ⟨r2, h2, h3⟩ := same34b2 k hk n m t n' m' t' o p q o' p' q' h h' hl
 have hs : ∀ i, i < p.length → ∃ r, Cl ty tab 67 [p.getD i .undef, p'.getD i .undef] = some [.bool r] ∧ (r = true ↔ pk (p.getD i .undef) = pk (p'.getD i .undef)) := fun i hi => by
  have hi' : i < p'.length := by omega
  rw [getD_get hi, getD_get hi']
  exact samePath_ok _ _ (h.hp _ (List.getElem_mem hi)).1 (h'.hp _ (List.getElem_mem hi')).1
 have ht : ∀ i, ∃ r : Bool, i < p.length → Cl ty tab 67 [p.getD i .undef, p'.getD i .undef] = some [.bool r] ∧ (r = true ↔ pk (p.getD i .undef) = pk (p'.getD i .undef)) := fun i => by
  by_cases hi : i < p.length
  · obtain ⟨r, hr⟩ := hs i hi
    exact ⟨r, fun _ => hr⟩
  · exact ⟨true, fun h => absurd h hi⟩
 obtain ⟨f, hf⟩ := Classical.axiomOfChoice ht
 have hx := all_loop (F := gatepathref34_Same.b1 (Cl ty tab) k) p.length f (fun i => [.int .i64 i, payV n m t o p q, payV n' m' t' o' p' q']) (some [.bool false]) (some [.bool r2]) (fun i hi again => ?_) (fun again => ?_) k (by omega)
 · obtain ⟨r, hr, hr2⟩ := hx
   refine ⟨r && r2, ?_, ?_⟩
   · simp only [Int.natCast_zero] at hr
     rw [hr]; cases r <;> rfl
   · rw [zq3, hr2, h3, ← all_pk_iff hp]
     refine and_congr ?_ Iff.rfl
     exact forall_congr' fun i => forall_congr' fun hi => (hf i hi).2
 · unfold gatepathref34_Same.b1
   have hi' : i < p'.length := by omega
   have e0 : D.agg [.int .u32 ((p.getD i .undef).cell 0).i, .sl 51 ((p.getD i .undef).cell 1).nb ((p.getD i .undef).cell 1).els] = p.getD i .undef := by
    rw [getD_get hi]; exact (h.hp _ (List.getElem_mem hi)).1.eta
   have e1 : D.agg [.int .u32 ((p'.getD i .undef).cell 0).i, .sl 51 ((p'.getD i .undef).cell 1).nb ((p'.getD i .undef).cell 1).els] = p'.getD i .undef := by
    rw [getD_get hi']; exact (h'.hp _ (List.getElem_mem hi')).1.eta
   have c0 := (hf i hi).1
   cases hc : f i
   · simp (disch := omega) only [gds, e0, e1, c0, hc, Int.natCast_add, Int.natCast_one]
   · simp (disch := omega) only [gds, e0, e1, c0, hc, Int.natCast_add, Int.natCast_one]
 · unfold gatepathref34_Same.b1
   simp (disch := omega) only [gds, h2]
theorem same34b0 (ho : o.length = o'.length) (hp : p.length = p'.length) (hl : q.length = q'.length) : ∃ r : Bool, iter k (gatepathref34_Same.b0 (Cl ty tab) k) [.int .i64 0, payV n m t o p q, payV n' m' t' o' p' q'] = some [.bool r] ∧ (r = true ↔ o = o' ∧ p.map pk = p'.map pk ∧ q = q') := by
 have hn := h.no
 obtain ⟨r2, h2, h3⟩ := same34b1 k hk n m t n' m' t' o p q o' p' q' h h' hp hl
 have hx := all_loop (F := gatepathref34_Same.b0 (Cl ty tab) k) o.length (fun i => eqCells (etaCells ks1 (o.getD i .undef) 0) (etaCells ks1 (o'.getD i .undef) 0)) (fun i => [.int .i64 i, payV n m t o p q, payV n' m' t' o' p' q']) (some [.bool false]) (some [.bool r2]) (fun i hi again => ?_) (fun again => ?_) k (by omega)
 · obtain ⟨r, hr, hr2⟩ := hx
   refine ⟨r && r2, ?_, ?_⟩
   · simp only [Int.natCast_zero] at hr
     rw [hr]; cases r <;> rfl
   · rw [zq3, hr2, h3]
     refine and_congr ?_ Iff.rfl
     exact all_eq_iff ho (p := fun a b => eqCells (etaCells oKs a 0) (etaCells oKs b 0) = true) fun a b ha hb => eqCells_eta (ks := oKs) (by decide) (h.ho a ha).fit (h'.ho b hb).fit
 · unfold gatepathref34_Same.b0
   have hi' : i < o'.length := by omega
   cases hc : eqCells (etaCells ks1 (o.getD i .undef) 0) (etaCells ks1 (o'.getD i .undef) 0)
   · simp (disch := omega) only [gds, hc, Int.natCast_add, Int.natCast_one]
   · simp (disch := omega) only [gds, hc, Int.natCast_add, Int.natCast_one]
 · unfold gatepathref34_Same.b0
   simp (disch := omega) only [gds, h2]
omit hk in
theorem same34_ok : ∃ r : Bool, Cl ty tab 23 [payD n m t o p q, payD n' m' t' o' p' q'] = some [.bool r] ∧ (r = true ↔ o = o' ∧ p.map pk = p'.map pk ∧ q = q') := by
 obtain ⟨k, hk⟩ := rounds
 by_cases h1 : o.length = o'.length
 case neg =>
  refine ⟨false, s_gatepathref34_Same k _ _ _ _ _ _ _ _ _ _ _ _ ?_, ?_⟩
  · unfold gatepathref34_Same
    have : ¬ ((o.length : Nat) : Int) = ((o'.length : Nat) : Int) := by omega
    simp (disch := omega) only [gds, this, ne_eq, not_false_eq_true]
  · constructor
    · intro h; cases h
    · rintro ⟨rfl, _⟩; exact absurd rfl h1
 by_cases h2 : p.length = p'.length
 case neg =>
  refine ⟨false, s_gatepathref34_Same k _ _ _ _ _ _ _ _ _ _ _ _ ?_, ?_⟩
  · unfold gatepathref34_Same
    have e1 : ((o.length : Nat) : Int) = ((o'.length : Nat) : Int) := by omega
    have : ¬ ((p.length : Nat) : Int) = ((p'.length : Nat) : Int) := by omega
    simp (disch := omega) only [gds, e1, this, ne_eq, not_false_eq_true, not_true_eq_false]
  · constructor
    · intro h; cases h
    · rintro ⟨_, e, _⟩
      have := congrArg List.length e
      simp at this
      exact absurd this h2
 by_cases h3 : q.length = q'.length
 case neg =>
  refine ⟨false, s_gatepathref34_Same k _ _ _ _ _ _ _ _ _ _ _ _ ?_, ?_⟩
  · unfold gatepathref34_Same
    have e1 : ((o.length : Nat) : Int) = ((o'.length : Nat) : Int) := by omega
    have e2 : ((p.length : Nat) : Int) = ((p'.length : Nat) : Int) := by omega
    have : ¬ ((q.length : Nat) : Int) = ((q'.length : Nat) : Int) := by omega
    simp (disch := omega) only [gds, e1, e2, this, ne_eq, not_false_eq_true, not_true_eq_false]
  · constructor
    · intro h; cases h
    · rintro ⟨_, _, rfl⟩; exact absurd rfl h3
 obtain ⟨r, hr, hr2⟩ := same34b0 k hk n m t n' m' t' o p q o' p' q' h h' h1 h2 h3
 refine ⟨r, s_gatepathref34_Same k _ _ _ _ _ _ _ _ _ _ _ _ ?_, hr2⟩
 unfold gatepathref34_Same
 have e1 : ((o.length : Nat) : Int) = ((o'.length : Nat) : Int) := by omega
 have e2 : ((p.length : Nat) : Int) = ((p'.length : Nat) : Int) := by omega
 have e3 : ((q.length : Nat) : Int) = ((q'.length : Nat) : Int) := by omega
 simp (disch := omega) only [gds, e1, e2, e3, hr, ne_eq, not_true_eq_false]
end
end Go.Proofs.YtapfhcnigmighaaGreat.Own
namespace Go.Proofs.YtapfhcnigmighaaGreat.Own
open Go Go.Proofs.YtapfhcnigmighaaGreat.GD
def bI (b : Bool) : Int := if b = true then 1 else 0
theorem truth_ok (a b : Bool) : Cl ty tab 88 [.bool a, .bool b] = some [.int .i64 (sgn (bI a) (bI b))] := by
 refine s_local_truth 0 _ _ ?_
 unfold local_truth
 cases a <;> cases b <;> rfl
abbrev fKs : List Sk := [.bool, .bool, .int .u8, .int .u64, .int .u64, .int .i64, .int .u32]
structure Fg (d : D) : Prop where
 fit : Vk.fits ⟨true, fKs⟩ d = true
 fam : 0 ≤ (d.cell 2).i ∧ (d.cell 2).i < 256
 hi : 0 ≤ (d.cell 3).i ∧ (d.cell 3).i < 18446744073709551616
 lo : 0 ≤ (d.cell 4).i ∧ (d.cell 4).i < 18446744073709551616
 as : 0 ≤ (d.cell 6).i ∧ (d.cell 6).i < 4294967296
theorem Fg.eta {d : D} (h : Fg d) : D.agg (etaCells ks3 d 0) = d := eta_fit h.fit
def numsF (d : D) : List Int := [bI (d.cell 0).b, (d.cell 2).i, (d.cell 3).i, (d.cell 4).i, (d.cell 5).i, bI (d.cell 1).b, (d.cell 6).i]
def ordF (a b : D) : Int := cmpL (numsF a) (numsF b)
def ltF (a b : D) : Bool := decide (ordF a b < 0)
def pzF (d : D) : Bool := decide ((d.cell 2).i = 0 ∧ (d.cell 3).i = 0 ∧ (d.cell 4).i = 0 ∧ (d.cell 5).i = 0)
def pokF (d : D) : Bool := bif (d.cell 0).b then decide (prefI (d.cell 2).i (d.cell 3).i (d.cell 4).i (d.cell 5).i = 0) else pzF d
def goodF (d : D) : Bool := ((d.cell 0).b || (d.cell 1).b) && (pokF d && ((d.cell 1).b || decide ((d.cell 6).i = 0)))
theorem prefixes_ok (a b c d e f g h : Int) : Cl ty tab 89 [.agg [.int .u8 a, .int .u64 b, .int .u64 c, .int .i64 d], .agg [.int .u8 e, .int .u64 f, .int .u64 g, .int .i64 h]] = some [.int .i64 (firstN [sgn a e, sgn b f, sgn c g, sgn d h])] := by
 refine s_local_prefixes 0 _ _ _ _ _ _ _ _ ?_
 unfold local_prefixes
 have hor := fun n => or_ok n [sgn a e, firstN [sgn b f, sgn c g], sgn d h] (by simp)
 simp only [List.map_cons, List.map_nil] at hor
 simp (disch := omega) only [gds, cmp_u8, cmp_int, addrC_ok, hor]
 have : firstN [sgn a e, firstN [sgn b f, sgn c g], sgn d h] = firstN [sgn a e, sgn b f, sgn c g, sgn d h] := by
  simp only [firstN]
  by_cases h1 : sgn a e = 0 <;> by_cases h2 : sgn b f = 0 <;> by_cases h3 : sgn c g = 0 <;> simp [h1, h2, h3]
 rw [this]
theorem byPrefix1_ok (a b : D) (ha : Fg a) (hb : Fg b) : Cl ty tab 86 [a, b] = some [.int .i64 (ordF a b)] := by
 have := s_local_byPrefix_1 0 a b (r := [.int .i64 (ordF a b)]) ?_
 · rwa [ha.eta, hb.eta] at this
 unfold local_byPrefix_1
 have hor := fun n => or_ok n [sgn (bI (a.cell 0).b) (bI (b.cell 0).b), firstN [sgn (a.cell 2).i (b.cell 2).i, sgn (a.cell 3).i (b.cell 3).i, sgn (a.cell 4).i (b.cell 4).i, sgn (a.cell 5).i (b.cell 5).i], sgn (bI (a.cell 1).b) (bI (b.cell 1).b), sgn (a.cell 6).i (b.cell 6).i] (by simp)
 simp only [List.map_cons, List.map_nil] at hor
 simp (disch := omega) only [gds, truth_ok, prefixes_ok, cmp_u32, hor]
 have : ∀ x1 x2 x3 x4 x5 x6 x7 : Int, firstN [x1, firstN [x2, x3, x4, x5], x6, x7] = firstN [x1, x2, x3, x4, x5, x6, x7] := fun x1 x2 x3 x4 x5 x6 x7 => by
  simp only [firstN]
  by_cases h1 : x1 = 0 <;> by_cases h2 : x2 = 0 <;> by_cases h3 : x3 = 0 <;> by_cases h4 : x4 = 0 <;> by_cases h5 : x5 = 0 <;> simp [h1, h2, h3, h4, h5]
 rw [this]
 unfold ordF numsF
 rw [cmpL_first]
 rfl
theorem byPrefix2_ok (d : D) (h : Fg d) : Cl ty tab 91 [d] = some [.bool (goodF d)] := by
 have := s_local_byPrefix_2 0 d (r := [.bool (goodF d)]) ?_
 · rwa [h.eta] at this
 unfold local_byPrefix_2 goodF pokF pzF
 have hc := check_i (d.cell 2).i (d.cell 3).i (d.cell 4).i (d.cell 5).i h.hi h.lo
 cases h0 : (d.cell 0).b <;> cases h1 : (d.cell 1).b
 · simp (disch := omega) only [gds, h0, h1]
 · by_cases z : (d.cell 2).i = 0 ∧ (d.cell 3).i = 0 ∧ (d.cell 4).i = 0 ∧ (d.cell 5).i = 0
   · obtain ⟨z1, z2, z3, z4⟩ := z
     simp (disch := omega) only [gds, h0, h1, z1, z2, z3, z4, and_self]
   · have : (decide ((d.cell 2).i = 0) && (decide ((d.cell 3).i = 0) && (decide ((d.cell 4).i = 0) && decide ((d.cell 5).i = 0)))) = false := by
      rw [Bool.eq_false_iff]; intro hh; exact z (by simpa using hh)
     simp (disch := omega) only [gds, h0, h1, z, this]
 · by_cases z : prefI (d.cell 2).i (d.cell 3).i (d.cell 4).i (d.cell 5).i = 0
   · simp (disch := omega) only [gds, h0, h1, hc, z]
   · simp (disch := omega) only [gds, h0, h1, hc, z]
 · by_cases z : prefI (d.cell 2).i (d.cell 3).i (d.cell 4).i (d.cell 5).i = 0
   · simp (disch := omega) only [gds, h0, h1, hc, z]
   · simp (disch := omega) only [gds, h0, h1, hc, z]
theorem wrapU {n : Int} (h : 0 ≤ n ∧ n < 18446744073709551616) : IntKind.u64.wrap n = n := by rw [wrap_u64]; omega
abbrev yKs : List Sk := [.bool, .bool, .int .u32, .int .u8, .int .u8, .int .u8, .int .u8, .int .u8, .int .u8, .int .u8, .int .u8, .int .u8, .int .u8, .int .u8, .int .u8, .int .u8, .int .u8, .int .u8, .int .u8, .int .i64]
abbrev yKsE (d : D) (n : Nat) : List D := etaCells ks4 d n
structure Yg (d : D) : Prop where
 fit : Vk.fits ⟨true, yKs⟩ d = true
 as : 0 ≤ (d.cell 2).i ∧ (d.cell 2).i < 4294967296
 rt : ∀ x, x ∈ rootN d 3 → 0 ≤ x ∧ x < 256
theorem Yg.eta {d : D} (h : Yg d) : D.agg (yKsE d 0) = d := eta_fit h.fit
def numsY (d : D) : List Int := bI (d.cell 0).b :: (d.cell 2).i :: bI (d.cell 1).b :: (rootN d 3 ++ [(d.cell 19).i])
def ordY (a b : D) : Int := cmpL (numsY a) (numsY b)
def ltY (a b : D) : Bool := decide (ordY a b < 0)
def zeroY (d : D) : Bool := eqCells (etaCells ks6 d 3) [D.int .u8 0, D.int .u8 0, D.int .u8 0, D.int .u8 0, D.int .u8 0, D.int .u8 0, D.int .u8 0, D.int .u8 0, D.int .u8 0, D.int .u8 0, D.int .u8 0, D.int .u8 0, D.int .u8 0, D.int .u8 0, D.int .u8 0, D.int .u8 0, D.int .i64 0]
def kokY (d : D) : Bool := bif (d.cell 1).b then decide (0 ≤ (d.cell 19).i ∧ (d.cell 19).i ≤ 4) else zeroY d
def goodY (d : D) : Bool := ((d.cell 1).b || (d.cell 0).b) && (kokY d && ((d.cell 0).b || decide ((d.cell 2).i = 0)))
theorem byKey1_ok (a b : D) (ha : Yg a) (hb : Yg b) : Cl ty tab 92 [a, b] = some [.int .i64 (ordY a b)] := by
 have := s_local_byKey_1 0 a b (r := [.int .i64 (ordY a b)]) ?_
 · rwa [ha.eta, hb.eta] at this
 unfold local_byKey_1
 have hc := cmpB_cmpL (rootN a 3) (rootN b 3) (by rw [rootN_len, rootN_len]) ha.rt hb.rt
 have hb1 : Cl ty tab 93 [.sl 5 false (rKsE a 3), .sl 5 false (rKsE b 3)] = some [.int .i64 (cmpL (rootN a 3) (rootN b 3))] := by
  rw [s_bytes_Compare, rootN_eta, rootN_eta, ← hc]; rfl
 have hor := fun n => or_ok n [sgn (bI (a.cell 0).b) (bI (b.cell 0).b), sgn (a.cell 2).i (b.cell 2).i, sgn (bI (a.cell 1).b) (bI (b.cell 1).b), cmpL (rootN a 3) (rootN b 3), sgn (a.cell 19).i (b.cell 19).i] (by simp)
 simp only [List.map_cons, List.map_nil] at hor
 simp (disch := omega) only [gds, truth_ok, cmp_u32, cmp_int, hor, hb1]
 unfold ordY numsY
 rw [cmpL_cons, cmpL_cons, cmpL_cons, cmpL_app _ _ _ _ (by rw [rootN_len, rootN_len]), cmpL_single]
 rfl
theorem byKey2_ok (d : D) (h : Yg d) : Cl ty tab 95 [d] = some [.bool (goodY d)] := by
 have := s_local_byKey_2 0 d (r := [.bool (goodY d)]) ?_
 · rwa [h.eta] at this
 unfold local_byKey_2 goodY kokY
 have hz : eqCells (etaCells ks6 d 3) [D.int .u8 0, D.int .u8 0, D.int .u8 0, D.int .u8 0, D.int .u8 0, D.int .u8 0, D.int .u8 0, D.int .u8 0, D.int .u8 0, D.int .u8 0, D.int .u8 0, D.int .u8 0, D.int .u8 0, D.int .u8 0, D.int .u8 0, D.int .u8 0, D.int .i64 0] = zeroY d := rfl
 rw [hz]
 cases h0 : (d.cell 0).b <;> cases h1 : (d.cell 1).b <;> cases hz2 : zeroY d <;> by_cases h2 : 0 ≤ (d.cell 19).i <;> by_cases h3 : (d.cell 19).i ≤ 4 <;> simp (disch := omega) only [gds, h0, h1, hz2, h2, h3, and_self, and_false, false_and, and_true, true_and]
structure Cg (d : D) : Prop where
 form : ∃ x : Int, d = .int .u32 x
theorem Cg.eta {d : D} (h : Cg d) : D.int .u32 (d.cell 0).i = d := by obtain ⟨x, rfl⟩ := h.form; rfl
def ordC (a b : D) : Int := sgn (a.cell 0).i (b.cell 0).i
def ltC (a b : D) : Bool := decide (ordC a b < 0)
def goodC (_ : D) : Bool := true
theorem byCustomer_ok (a b : D) (ha : Cg a) (hb : Cg b) : Cl ty tab 90 [a, b] = some [.int .i64 (ordC a b)] := by
 rw [← ha.eta, ← hb.eta]; exact cmp_u32 _ _
theorem byCustomer1_ok (d : D) (h : Cg d) : Cl ty tab 96 [d] = some [.bool (goodC d)] := by
 rw [← h.eta]; exact s_local_byCustomer_1 0 _ rfl
theorem checkF_ok (n : Bool) (l : List D) (hl : ∀ d, d ∈ l → Fg d) (hn : l.length ≤ 9223372036854775807) : Cl ty tab 83 [.agg [.fn 86 [], .fn 91 []], .sl 70 n l] = some [.bool (risF goodF ltF l)] := by
 obtain ⟨k, hk⟩ := rounds
 refine s_api_LocalPrefix_check k _ _ ?_
 unfold api_LocalPrefix_check
 have hE : ∀ d, d ∈ l → D.agg (etaCells ks3 d 0) = d := fun d hd => (hl d hd).eta
 have := ris_loop (F := api_LocalPrefix_check.b0 (Cl ty tab) k l) l goodF ltF (fun i => [.int .i64 i]) (some [.bool false]) (some [.bool true]) (fun i hi again => ?_) (fun again => ?_) k (by omega)
 · simp only [Int.natCast_zero] at this
   rw [this]
   cases risF goodF ltF l <;> rfl
 · unfold api_LocalPrefix_check.b0
   have e0 := hE l[i] (List.getElem_mem hi)
   have g0 := byPrefix2_ok l[i] (hl _ (List.getElem_mem hi))
   cases hg : goodF l[i]
   · simp (disch := omega) only [gds, getD_get, e0, g0, hg, false_and]
   · by_cases h0 : i = 0
     · subst h0
       simp (disch := omega) only [gds, getD_get, e0, g0, hg, true_and, true_or, Int.natCast_zero, Int.toNat_zero, Int.zero_add, Int.natCast_one]
     · have hi1 : i - 1 < l.length := by omega
       have e1 := hE l[i - 1] (List.getElem_mem hi1)
       have o1 := byPrefix1_ok l[i - 1] l[i] (hl _ (List.getElem_mem hi1)) (hl _ (List.getElem_mem hi))
       have el : ltF l[i - 1] l[i] = decide (ordF l[i - 1] l[i] < 0) := rfl
       by_cases hlt : ordF l[i - 1] l[i] < 0
       · simp (disch := omega) only [gds, getD_get, e0, e1, o1, g0, hg, true_and, false_or, h0, el, hlt, Int.natCast_add, Int.natCast_one]
       · simp (disch := omega) only [gds, getD_get, e0, e1, o1, g0, hg, true_and, false_or, h0, el, hlt, Int.natCast_add, Int.natCast_one]
 · unfold api_LocalPrefix_check.b0
   simp (disch := omega) only [gds]
theorem checkY_ok (n : Bool) (l : List D) (hl : ∀ d, d ∈ l → Yg d) (hn : l.length ≤ 9223372036854775807) : Cl ty tab 84 [.agg [.fn 92 [], .fn 95 []], .sl 73 n l] = some [.bool (risF goodY ltY l)] := by
 obtain ⟨k, hk⟩ := rounds
 refine s_api_LocalKey_check k _ _ ?_
 unfold api_LocalKey_check
 have hE : ∀ d, d ∈ l → D.agg (etaCells ks4 d 0) = d := fun d hd => (hl d hd).eta
 have := ris_loop (F := api_LocalKey_check.b0 (Cl ty tab) k l) l goodY ltY (fun i => [.int .i64 i]) (some [.bool false]) (some [.bool true]) (fun i hi again => ?_) (fun again => ?_) k (by omega)
 · simp only [Int.natCast_zero] at this
   rw [this]
   cases risF goodY ltY l <;> rfl
 · unfold api_LocalKey_check.b0
   have e0 := hE l[i] (List.getElem_mem hi)
   have g0 := byKey2_ok l[i] (hl _ (List.getElem_mem hi))
   cases hg : goodY l[i]
   · simp (disch := omega) only [gds, getD_get, e0, g0, hg, false_and]
   · by_cases h0 : i = 0
     · subst h0
       simp (disch := omega) only [gds, getD_get, e0, g0, hg, true_and, true_or, Int.natCast_zero, Int.toNat_zero, Int.zero_add, Int.natCast_one]
     · have hi1 : i - 1 < l.length := by omega
       have e1 := hE l[i - 1] (List.getElem_mem hi1)
       have o1 := byKey1_ok l[i - 1] l[i] (hl _ (List.getElem_mem hi1)) (hl _ (List.getElem_mem hi))
       have el : ltY l[i - 1] l[i] = decide (ordY l[i - 1] l[i] < 0) := rfl
       by_cases hlt : ordY l[i - 1] l[i] < 0
       · simp (disch := omega) only [gds, getD_get, e0, e1, o1, g0, hg, true_and, false_or, h0, el, hlt, Int.natCast_add, Int.natCast_one]
       · simp (disch := omega) only [gds, getD_get, e0, e1, o1, g0, hg, true_and, false_or, h0, el, hlt, Int.natCast_add, Int.natCast_one]
 · unfold api_LocalKey_check.b0
   simp (disch := omega) only [gds]
theorem checkC_ok (n : Bool) (l : List D) (hl : ∀ d, d ∈ l → Cg d) (hn : l.length ≤ 9223372036854775807) : Cl ty tab 85 [.agg [.fn 90 [], .fn 96 []], .sl 51 n l] = some [.bool (risF goodC ltC l)] := by
 obtain ⟨k, hk⟩ := rounds
 refine s_local_order_uint32_check k _ _ ?_
 unfold local_order_uint32_check
 have hE : ∀ d, d ∈ l → D.int .u32 (d.cell 0).i = d := fun d hd => (hl d hd).eta
 have := ris_loop (F := local_order_uint32_check.b0 (Cl ty tab) k l) l goodC ltC (fun i => [.int .i64 i]) (some [.bool false]) (some [.bool true]) (fun i hi again => ?_) (fun again => ?_) k (by omega)
 · simp only [Int.natCast_zero] at this
   rw [this]
   cases risF goodC ltC l <;> rfl
 · unfold local_order_uint32_check.b0
   have e0 := hE l[i] (List.getElem_mem hi)
   have g0 := byCustomer1_ok l[i] (hl _ (List.getElem_mem hi))
   cases hg : goodC l[i]
   · simp (disch := omega) only [gds, getD_get, e0, g0, hg, false_and]
   · by_cases h0 : i = 0
     · subst h0
       simp (disch := omega) only [gds, getD_get, e0, g0, hg, true_and, true_or, Int.natCast_zero, Int.toNat_zero, Int.zero_add, Int.natCast_one]
     · have hi1 : i - 1 < l.length := by omega
       have e1 := hE l[i - 1] (List.getElem_mem hi1)
       have o1 := byCustomer_ok l[i - 1] l[i] (hl _ (List.getElem_mem hi1)) (hl _ (List.getElem_mem hi))
       have el : ltC l[i - 1] l[i] = decide (ordC l[i - 1] l[i] < 0) := rfl
       by_cases hlt : ordC l[i - 1] l[i] < 0
       · simp (disch := omega) only [gds, getD_get, e0, e1, o1, g0, hg, true_and, false_or, h0, el, hlt, Int.natCast_add, Int.natCast_one]
       · simp (disch := omega) only [gds, getD_get, e0, e1, o1, g0, hg, true_and, false_or, h0, el, hlt, Int.natCast_add, Int.natCast_one]
 · unfold local_order_uint32_check.b0
   simp (disch := omega) only [gds]
end Go.Proofs.YtapfhcnigmighaaGreat.Own
namespace Go.Proofs.YtapfhcnigmighaaGreat.Own
open Go Go.Proofs.YtapfhcnigmighaaGreat.GD
abbrev xKs : List Sk := [.sl 70, .sl 73, .sl 51, .sl 58, .sl 84, .sl 64]
abbrev xE (d : D) : List D := etaCells ks0 d 0
structure Xg (x : D) : Prop where
 fit : Vk.fits ⟨true, xKs⟩ x = true
 hf : ∀ d, d ∈ (x.cell 0).els → Fg d
 hy : ∀ d, d ∈ (x.cell 1).els → Yg d
 hc : ∀ d, d ∈ (x.cell 2).els → Cg d
 nf : (x.cell 0).els.length ≤ 9223372036854775807
 ny : (x.cell 1).els.length ≤ 9223372036854775807
 nc : (x.cell 2).els.length ≤ 9223372036854775807
 pay : Pay (x.cell 3).els (x.cell 4).els (x.cell 5).els
theorem Xg.eta {x : D} (h : Xg x) : D.agg (xE x) = x := eta_fit h.fit
theorem xEta (x : D) : etaList ks0 (xE x) 0 = xE x := etaList_eta ..
theorem xE0 (x : D) : (xE x).getD 0 .undef = .sl 70 (x.cell 0).nb (x.cell 0).els := rfl
theorem xE1 (x : D) : (xE x).getD 1 .undef = .sl 73 (x.cell 1).nb (x.cell 1).els := rfl
theorem xE2 (x : D) : (xE x).getD 2 .undef = .sl 51 (x.cell 2).nb (x.cell 2).els := rfl
theorem xE3 (x : D) : (xE x).getD 3 .undef = .sl 58 (x.cell 3).nb (x.cell 3).els := rfl
theorem xE4 (x : D) : (xE x).getD 4 .undef = .sl 84 (x.cell 4).nb (x.cell 4).els := rfl
theorem xE5 (x : D) : (xE x).getD 5 .undef = .sl 64 (x.cell 5).nb (x.cell 5).els := rfl
noncomputable def xC (x : D) : Int :=
 if 100 < (x.cell 0).els.length ∨ 100 < (x.cell 1).els.length ∨ 100 < (x.cell 2).els.length then 4
 else if risF goodF ltF (x.cell 0).els = true ∧ risF goodY ltY (x.cell 1).els = true ∧ risF goodC ltC (x.cell 2).els = true then payC (x.cell 3).els (x.cell 4).els (x.cell 5).els else 8
theorem localCheck_ok (x : D) (h : Xg x) : Cl ty tab 33 [x] = some [.int .i64 (xC x)] := by
 have := s_local_Check 0 x (r := [.int .i64 (xC x)]) ?_
 · rwa [h.eta] at this
 unfold local_Check xC
 have p1 := s_local_byPrefix 0 (r := [.agg [.fn 86 [], .fn 91 []]]) rfl
 have p2 := s_local_byKey 0 (r := [.agg [.fn 92 [], .fn 95 []]]) rfl
 have p3 := s_local_byCustomer 0 (r := [.agg [.fn 90 [], .fn 96 []]]) rfl
 have mx : ∀ a b c : Nat, decide ((100 : Int) < (if (if ((a : Nat) : Int) < (b : Nat) then ((b : Nat) : Int) else (a : Nat)) < ((c : Nat) : Int) then ((c : Nat) : Int) else (if ((a : Nat) : Int) < (b : Nat) then ((b : Nat) : Int) else (a : Nat)))) = decide (100 < a ∨ 100 < b ∨ 100 < c) := fun a b c => by
  simp only [decide_eq_decide]
  split <;> split <;> omega
 rw [mx]
 by_cases h0 : 100 < (x.cell 0).els.length ∨ 100 < (x.cell 1).els.length ∨ 100 < (x.cell 2).els.length
 · rw [if_pos h0]
   simp only [h0, decide_true, ct]
 rw [if_neg h0]
 have cF := checkF_ok (x.cell 0).nb (x.cell 0).els h.hf h.nf
 have cY := checkY_ok (x.cell 1).nb (x.cell 1).els h.hy h.ny
 have cC := checkC_ok (x.cell 2).nb (x.cell 2).els h.hc h.nc
 have cP := diffCheck_ok (x.cell 3).nb (x.cell 4).nb (x.cell 5).nb (x.cell 3).els (x.cell 4).els (x.cell 5).els h.pay
 simp only [h0, decide_false, cf]
 clear mx
 cases h1 : risF goodF ltF (x.cell 0).els <;> cases h2 : risF goodY ltY (x.cell 1).els <;> cases h3 : risF goodC ltC (x.cell 2).els <;>
  simp (disch := omega) only [gds, p1, p2, p3, cF, cY, cC, cP, h1, h2, h3, and_self, and_false, false_and]
section
variable (k : Nat) (hk : 9223372036854775809 < k) (x : D) (h : Xg x)
include hk h
end
structure SmallX (x : D) : Prop where
 f : (x.cell 0).els.length ≤ 120
 y : (x.cell 1).els.length ≤ 120
 c : (x.cell 2).els.length ≤ 120
 pay : Small (x.cell 3).els (x.cell 4).els (x.cell 5).els
theorem Great43_ok (x : D) (h : Xg x) : ∃ b, Cl ty tab 17 [x] = some [.bool b] ∧ (b = false → SmallX x) := by
 obtain ⟨b, hb, hs⟩ := Great34_ok (x.cell 3).nb (x.cell 4).nb (x.cell 5).nb (x.cell 3).els (x.cell 4).els (x.cell 5).els h.pay
 have key : ∀ r, gatepathref43_Great (Cl ty tab) 0 x = some [.bool r] → Cl ty tab 17 [x] = some [.bool r] := fun r hr => by
  have := s_gatepathref43_Great 0 x hr
  rwa [h.eta] at this
 unfold gatepathref43_Great at key
 by_cases h0 : 120 < (x.cell 0).els.length
 · exact ⟨true, key _ (by simp (disch := omega) only [gds, h0]), fun h => by cases h⟩
 by_cases h1 : 120 < (x.cell 1).els.length
 · exact ⟨true, key _ (by simp (disch := omega) only [gds, h0, h1]), fun h => by cases h⟩
 by_cases h2 : 120 < (x.cell 2).els.length
 · exact ⟨true, key _ (by simp (disch := omega) only [gds, h0, h1, h2]), fun h => by cases h⟩
 exact ⟨b, key _ (by simp (disch := omega) only [gds, h0, h1, h2, hb]), fun e => ⟨by omega, by omega, by omega, hs e⟩⟩
def SameX (a b : D) : Prop := (a.cell 0).els = (b.cell 0).els ∧ (a.cell 1).els = (b.cell 1).els ∧ (a.cell 2).els = (b.cell 2).els ∧ (a.cell 3).els = (b.cell 3).els ∧ (a.cell 4).els.map pk = (b.cell 4).els.map pk ∧ (a.cell 5).els = (b.cell 5).els
section
variable (k : Nat) (hk : 9223372036854775808 < k) (a b : D) (ha : Xg a) (hb : Xg b)
include hk ha hb
theorem same43b2 (h2 : (a.cell 2).els.length = (b.cell 2).els.length) : ∃ r : Bool, iter k (gatepathref43_Same.b2 (Cl ty tab) k) [.int .i64 0, .pv (xE a), .pv (xE b)] = some [.bool r] ∧ (r = true ↔ (a.cell 2).els = (b.cell 2).els ∧ (a.cell 3).els = (b.cell 3).els ∧ (a.cell 4).els.map pk = (b.cell 4).els.map pk ∧ (a.cell 5).els = (b.cell 5).els) := by
 have hn := ha.nc
 obtain ⟨r2, g2, g3⟩ := same34_ok (a.cell 3).nb (a.cell 4).nb (a.cell 5).nb (b.cell 3).nb (b.cell 4).nb (b.cell 5).nb (a.cell 3).els (a.cell 4).els (a.cell 5).els (b.cell 3).els (b.cell 4).els (b.cell 5).els ha.pay hb.pay
 have hx := all_loop (F := gatepathref43_Same.b2 (Cl ty tab) k) (a.cell 2).els.length (fun i => decide ((((a.cell 2).els.getD i .undef).cell 0).i = (((b.cell 2).els.getD i .undef).cell 0).i)) (fun i => [.int .i64 i, .pv (xE a), .pv (xE b)]) (some [.bool false]) (some [.bool r2]) (fun i hi again => ?_) (fun again => ?_) k (by omega)
 · obtain ⟨r, hr, hr2⟩ := hx
   refine ⟨r && r2, ?_, ?_⟩
   · simp only [Int.natCast_zero] at hr
     rw [hr]; cases r <;> rfl
   · rw [zq3, hr2, g3]
     refine and_congr ?_ Iff.rfl
     simp only [decide_eq_true_eq]
     exact all_eq_iff h2 (p := fun x y => (x.cell 0).i = (y.cell 0).i) fun x y hx hy => by
      have e1 := (ha.hc x hx).eta
      have e2 := (hb.hc y hy).eta
      constructor
      · intro e; rw [← e1, ← e2, e]
      · intro e; rw [e]
 · unfold gatepathref43_Same.b2
   by_cases h3 : (((a.cell 2).els.getD i .undef).cell 0).i = (((b.cell 2).els.getD i .undef).cell 0).i
   · simp (disch := omega) only [gds, xE2, xEta, h3, ne_eq, not_true_eq_false, Int.natCast_add, Int.natCast_one]
   · simp (disch := omega) only [gds, xE2, xEta, h3, ne_eq, not_false_eq_true, Int.natCast_add, Int.natCast_one]
 · unfold gatepathref43_Same.b2
   simp (disch := omega) only [gds, xE2, xE3, xE4, xE5, xEta, g2]
theorem same43b1 (h1 : (a.cell 1).els.length = (b.cell 1).els.length) (h2 : (a.cell 2).els.length = (b.cell 2).els.length) : ∃ r : Bool, iter k (gatepathref43_Same.b1 (Cl ty tab) k) [.int .i64 0, .pv (xE a), .pv (xE b)] = some [.bool r] ∧ (r = true ↔ (a.cell 1).els = (b.cell 1).els ∧ (a.cell 2).els = (b.cell 2).els ∧ (a.cell 3).els = (b.cell 3).els ∧ (a.cell 4).els.map pk = (b.cell 4).els.map pk ∧ (a.cell 5).els = (b.cell 5).els) := by
 have hn := ha.ny
 obtain ⟨r2, g2, g3⟩ := same43b2 k hk a b ha hb h2
 have hx := all_loop (F := gatepathref43_Same.b1 (Cl ty tab) k) (a.cell 1).els.length (fun i => eqCells (yKsE ((a.cell 1).els.getD i .undef) 0) (yKsE ((b.cell 1).els.getD i .undef) 0)) (fun i => [.int .i64 i, .pv (xE a), .pv (xE b)]) (some [.bool false]) (some [.bool r2]) (fun i hi again => ?_) (fun again => ?_) k (by omega)
 · obtain ⟨r, hr, hr2⟩ := hx
   refine ⟨r && r2, ?_, ?_⟩
   · simp only [Int.natCast_zero] at hr
     rw [hr]; cases r <;> rfl
   · rw [zq3, hr2, g3]
     refine and_congr ?_ Iff.rfl
     exact all_eq_iff h1 (p := fun x y => eqCells (yKsE x 0) (yKsE y 0) = true) fun x y hx hy => eqCells_eta (ks := yKs) (by decide) (ha.hy x hx).fit (hb.hy y hy).fit
 · unfold gatepathref43_Same.b1
   cases hc : eqCells (yKsE ((a.cell 1).els.getD i .undef) 0) (yKsE ((b.cell 1).els.getD i .undef) 0)
   · simp (disch := omega) only [gds, xE1, xEta, hc, Int.natCast_add, Int.natCast_one]
   · simp (disch := omega) only [gds, xE1, xEta, hc, Int.natCast_add, Int.natCast_one]
 · unfold gatepathref43_Same.b1
   simp (disch := omega) only [gds, xE1, xEta, g2]
theorem same43b0 (h0 : (a.cell 0).els.length = (b.cell 0).els.length) (h1 : (a.cell 1).els.length = (b.cell 1).els.length) (h2 : (a.cell 2).els.length = (b.cell 2).els.length) : ∃ r : Bool, iter k (gatepathref43_Same.b0 (Cl ty tab) k) [.int .i64 0, .pv (xE a), .pv (xE b)] = some [.bool r] ∧ (r = true ↔ SameX a b) := by
 have hn := ha.nf
 obtain ⟨r2, g2, g3⟩ := same43b1 k hk a b ha hb h1 h2
 have hx := all_loop (F := gatepathref43_Same.b0 (Cl ty tab) k) (a.cell 0).els.length (fun i => eqCells (etaCells ks3 ((a.cell 0).els.getD i .undef) 0) (etaCells ks3 ((b.cell 0).els.getD i .undef) 0)) (fun i => [.int .i64 i, .pv (xE a), .pv (xE b)]) (some [.bool false]) (some [.bool r2]) (fun i hi again => ?_) (fun again => ?_) k (by omega)
 · obtain ⟨r, hr, hr2⟩ := hx
   refine ⟨r && r2, ?_, ?_⟩
   · simp only [Int.natCast_zero] at hr
     rw [hr]; cases r <;> rfl
   · rw [zq3, hr2, g3]
     refine and_congr ?_ Iff.rfl
     exact all_eq_iff h0 (p := fun x y => eqCells (etaCells fKs x 0) (etaCells fKs y 0) = true) fun x y hx hy => eqCells_eta (ks := fKs) (by decide) (ha.hf x hx).fit (hb.hf y hy).fit
 · unfold gatepathref43_Same.b0
   cases hc : eqCells (etaCells ks3 ((a.cell 0).els.getD i .undef) 0) (etaCells ks3 ((b.cell 0).els.getD i .undef) 0)
   · simp (disch := omega) only [gds, xE0, xEta, hc, Int.natCast_add, Int.natCast_one]
   · simp (disch := omega) only [gds, xE0, xEta, hc, Int.natCast_add, Int.natCast_one]
 · unfold gatepathref43_Same.b0
   simp (disch := omega) only [gds, xE0, xEta, g2]
omit hk in
theorem same43_ok : ∃ r : Bool, Cl ty tab 14 [a, b] = some [.bool r] ∧ (r = true ↔ SameX a b) := by
 obtain ⟨k, hk⟩ := rounds
 have key : ∀ r, gatepathref43_Same (Cl ty tab) k a b = some [.bool r] → Cl ty tab 14 [a, b] = some [.bool r] := fun r hr => by
  have := s_gatepathref43_Same k a b hr
  rwa [ha.eta, hb.eta] at this
 unfold gatepathref43_Same at key
 by_cases h0 : (a.cell 0).els.length = (b.cell 0).els.length
 case neg =>
  refine ⟨false, key _ ?_, ?_⟩
  · have : ¬ (((a.cell 0).els.length : Nat) : Int) = (((b.cell 0).els.length : Nat) : Int) := by omega
    simp (disch := omega) only [gds, this, ne_eq, not_false_eq_true]
  · constructor
    · intro h; cases h
    · intro h; exact absurd (congrArg List.length h.1) h0
 by_cases h1 : (a.cell 1).els.length = (b.cell 1).els.length
 case neg =>
  refine ⟨false, key _ ?_, ?_⟩
  · have e0 : (((a.cell 0).els.length : Nat) : Int) = (((b.cell 0).els.length : Nat) : Int) := by omega
    have : ¬ (((a.cell 1).els.length : Nat) : Int) = (((b.cell 1).els.length : Nat) : Int) := by omega
    simp (disch := omega) only [gds, e0, this, ne_eq, not_false_eq_true, not_true_eq_false]
  · constructor
    · intro h; cases h
    · intro h; exact absurd (congrArg List.length h.2.1) h1
 by_cases h2 : (a.cell 2).els.length = (b.cell 2).els.length
 case neg =>
  refine ⟨false, key _ ?_, ?_⟩
  · have e0 : (((a.cell 0).els.length : Nat) : Int) = (((b.cell 0).els.length : Nat) : Int) := by omega
    have e1 : (((a.cell 1).els.length : Nat) : Int) = (((b.cell 1).els.length : Nat) : Int) := by omega
    have : ¬ (((a.cell 2).els.length : Nat) : Int) = (((b.cell 2).els.length : Nat) : Int) := by omega
    simp (disch := omega) only [gds, e0, e1, this, ne_eq, not_false_eq_true, not_true_eq_false]
  · constructor
    · intro h; cases h
    · intro h; exact absurd (congrArg List.length h.2.2.1) h2
 obtain ⟨r, hr, hr2⟩ := same43b0 k hk a b ha hb h0 h1 h2
 refine ⟨r, key _ ?_, hr2⟩
 have e0 : (((a.cell 0).els.length : Nat) : Int) = (((b.cell 0).els.length : Nat) : Int) := by omega
 have e1 : (((a.cell 1).els.length : Nat) : Int) = (((b.cell 1).els.length : Nat) : Int) := by omega
 have e2 : (((a.cell 2).els.length : Nat) : Int) = (((b.cell 2).els.length : Nat) : Int) := by omega
 simp (disch := omega) only [gds, e0, e1, e2, hr, ne_eq, not_true_eq_false]
end
end Go.Proofs.YtapfhcnigmighaaGreat.Own
namespace Go.Proofs.YtapfhcnigmighaaGreat.Own
open Go Go.Proofs.YtapfhcnigmighaaGreat.GD
theorem wt_cell {ks : List Sk} {d : D} (hf : Vk.fits ⟨true, ks⟩ d = true) (hw : WT ty d) {j : Nat} {s : Sk} (hs : ks[j]? = some s) : WT ty (d.cell j) ∧ fits s (d.cell j) = true := by
 obtain ⟨cs, rfl, hc⟩ := fits_agg hf
 obtain ⟨h1, h2⟩ := fitsL_spec hc
 have hj : j < cs.length := by
  rcases Nat.lt_or_ge j ks.length with h | h
  · omega
  · rw [List.getElem?_eq_none h] at hs; cases hs
 exact ⟨hw.cells _ (mem_getD hj), h2 j s hs⟩
theorem rng_of {ks : List Sk} {d : D} (hf : Vk.fits ⟨true, ks⟩ d = true) (hw : WT ty d) {j : Nat} {k : IntKind} (hs : ks[j]? = some (.int k)) : k.min ≤ (d.cell j).i ∧ (d.cell j).i ≤ k.max := by
 obtain ⟨h1, h2⟩ := wt_cell hf hw hs
 obtain ⟨n, hn⟩ := fits_int h2
 rw [hn] at h1 ⊢
 exact h1.rng
theorem els_of {ks : List Sk} {d : D} (hf : Vk.fits ⟨true, ks⟩ d = true) (hw : WT ty d) {j : Nat} {e : TypeId} (hs : ks[j]? = some (.sl e)) {k : Vk} (hk : ty e = some k) :
  (d.cell j).els.length ≤ 9223372036854775807 ∧ ∀ x, x ∈ (d.cell j).els → k.fits x = true ∧ WT ty x := by
 obtain ⟨h1, h2⟩ := wt_cell hf hw hs
 obtain ⟨nb, els, hn⟩ := fits_sl h2
 rw [hn] at h1 ⊢
 obtain ⟨a, _, b, c⟩ := h1.els
 exact ⟨a, fun x hx => ⟨b k hk x hx, c x hx⟩⟩
theorem nums_of {k : IntKind} : ∀ {l : List D}, (∀ x, x ∈ l → Vk.fits ⟨false, [.int k]⟩ x = true ∧ WT ty x) → ∃ L : List Int, l = L.map (D.int k) ∧ ∀ x, x ∈ L → k.min ≤ x ∧ x ≤ k.max
 | [], _ => ⟨[], rfl, fun x h => by cases h⟩
 | d :: l, h => by
  obtain ⟨L, rfl, hL⟩ := nums_of (l := l) fun x hx => h x (List.mem_cons_of_mem _ hx)
  obtain ⟨h1, h2⟩ := h d (List.mem_cons_self ..)
  obtain ⟨n, rfl⟩ := fits_int (fits_one h1)
  exact ⟨n :: L, rfl, fun x hx => by
   rcases List.mem_cons.1 hx with rfl | hx
   · exact h2.rng
   · exact hL x hx⟩
theorem root_of {ks : List Sk} {d : D} (hf : Vk.fits ⟨true, ks⟩ d = true) (hw : WT ty d) {n : Nat} (hs : ∀ j, j < 16 → ks[n + j]? = some (.int .u8)) : ∀ x, x ∈ rootN d n → 0 ≤ x ∧ x < 256 := by
 intro x hx
 unfold rootN at hx
 obtain ⟨j, hj, rfl⟩ := List.mem_map.1 hx
 have := rng_of hf hw (hs j (List.mem_range.1 hj))
 have e1 : IntKind.min .u8 = 0 := rfl
 have e2 : IntKind.max .u8 = 255 := rfl
 omega
theorem og_of {d : D} (hf : Vk.fits ⟨true, oKs⟩ d = true) (hw : WT ty d) : Og d := by
 have h2 := rng_of hf hw (j := 2) rfl
 have h3 := rng_of hf hw (j := 3) rfl
 have e1 : IntKind.min .u64 = 0 := rfl
 have e2 : IntKind.max .u64 = 18446744073709551615 := rfl
 exact ⟨hf, by omega, by omega⟩
theorem pg_of {d : D} (hf : Vk.fits ⟨true, [.int .u32, .sl 51]⟩ d = true) (hw : WT ty d) : Pg d ∧ 0 ≤ custP d := by
 have h0 := rng_of hf hw (j := 0) rfl
 have e1 : IntKind.min .u32 = 0 := rfl
 have e2 : IntKind.max .u32 = 4294967295 := rfl
 obtain ⟨h1, h2⟩ := els_of hf hw (j := 1) rfl (k := ⟨false, [.int .u32]⟩) rfl
 obtain ⟨L, hL, hL2⟩ := nums_of h2
 exact ⟨⟨hf, ⟨L, hL, fun x hx => by have := hL2 x hx; omega⟩, h1⟩, by unfold custP; omega⟩
theorem kg_of {d : D} (hf : Vk.fits ⟨true, kKs⟩ d = true) (hw : WT ty d) : Kg d :=
 ⟨hf, root_of hf hw (n := 1) fun j hj => by
  have : j = 0 ∨ j = 1 ∨ j = 2 ∨ j = 3 ∨ j = 4 ∨ j = 5 ∨ j = 6 ∨ j = 7 ∨ j = 8 ∨ j = 9 ∨ j = 10 ∨ j = 11 ∨ j = 12 ∨ j = 13 ∨ j = 14 ∨ j = 15 := by omega
  rcases this with rfl | rfl | rfl | rfl | rfl | rfl | rfl | rfl | rfl | rfl | rfl | rfl | rfl | rfl | rfl | rfl <;> rfl⟩
theorem fg_of {d : D} (hf : Vk.fits ⟨true, fKs⟩ d = true) (hw : WT ty d) : Fg d := by
 have h2 := rng_of hf hw (j := 2) rfl
 have h3 := rng_of hf hw (j := 3) rfl
 have h4 := rng_of hf hw (j := 4) rfl
 have h6 := rng_of hf hw (j := 6) rfl
 have e1 : IntKind.min .u64 = 0 := rfl
 have e2 : IntKind.max .u64 = 18446744073709551615 := rfl
 have e3 : IntKind.min .u32 = 0 := rfl
 have e4 : IntKind.max .u32 = 4294967295 := rfl
 have e5 : IntKind.min .u8 = 0 := rfl
 have e6 : IntKind.max .u8 = 255 := rfl
 exact ⟨hf, by omega, by omega, by omega, by omega⟩
theorem yg_of {d : D} (hf : Vk.fits ⟨true, yKs⟩ d = true) (hw : WT ty d) : Yg d := by
 have h2 := rng_of hf hw (j := 2) rfl
 have e3 : IntKind.min .u32 = 0 := rfl
 have e4 : IntKind.max .u32 = 4294967295 := rfl
 refine ⟨hf, by omega, root_of hf hw (n := 3) fun j hj => ?_⟩
 have : j = 0 ∨ j = 1 ∨ j = 2 ∨ j = 3 ∨ j = 4 ∨ j = 5 ∨ j = 6 ∨ j = 7 ∨ j = 8 ∨ j = 9 ∨ j = 10 ∨ j = 11 ∨ j = 12 ∨ j = 13 ∨ j = 14 ∨ j = 15 := by omega
 rcases this with rfl | rfl | rfl | rfl | rfl | rfl | rfl | rfl | rfl | rfl | rfl | rfl | rfl | rfl | rfl | rfl <;> rfl
theorem xg_of {x : D} (hf : Vk.fits ⟨true, xKs⟩ x = true) (hw : WT ty x) : Xg x := by
 obtain ⟨n0, h0⟩ := els_of hf hw (j := 0) rfl (k := ⟨true, fKs⟩) rfl
 obtain ⟨n1, h1⟩ := els_of hf hw (j := 1) rfl (k := ⟨true, yKs⟩) rfl
 obtain ⟨n2, h2⟩ := els_of hf hw (j := 2) rfl (k := ⟨false, [.int .u32]⟩) rfl
 obtain ⟨n3, h3⟩ := els_of hf hw (j := 3) rfl (k := ⟨true, oKs⟩) rfl
 obtain ⟨n4, h4⟩ := els_of hf hw (j := 4) rfl (k := ⟨true, [.int .u32, .sl 51]⟩) rfl
 obtain ⟨n5, h5⟩ := els_of hf hw (j := 5) rfl (k := ⟨true, kKs⟩) rfl
 exact ⟨hf, fun d hd => fg_of (h0 d hd).1 (h0 d hd).2, fun d hd => yg_of (h1 d hd).1 (h1 d hd).2, fun d hd => ⟨fits_int (fits_one (h2 d hd).1)⟩, n0, n1, n2,
  ⟨fun d hd => og_of (h3 d hd).1 (h3 d hd).2, fun d hd => pg_of (h4 d hd).1 (h4 d hd).2, fun d hd => kg_of (h5 d hd).1 (h5 d hd).2, n3, n4, n5⟩⟩
end Go.Proofs.YtapfhcnigmighaaGreat.Own
namespace Go.Proofs.YtapfhcnigmighaaGreat.GD
open Go
def idxT (p : D → Bool) : List D → Nat → Int
 | [], _ => -1
 | d :: l, i => if p d = true then (i : Int) else idxT p l (i + 1)
theorem idxT_none {p : D → Bool} : ∀ {l : List D} {i : Nat}, idxT p l i = -1 → l.filter (fun d => !p d) = l
 | [], _, _ => rfl
 | d :: l, i, h => by
  unfold idxT at h
  split at h
  · omega
  · rename_i hp
    rw [List.filter_cons, if_pos (by simp [hp]), idxT_none h]
theorem idxT_some {p : D → Bool} : ∀ {l : List D} {i : Nat}, idxT p l i ≠ -1 → ∃ j : Nat, idxT p l i = ((i + j : Nat) : Int) ∧ j < l.length ∧ (l.take j).filter (fun d => !p d) = l.take j ∧ p (l.getD j .undef) = true
 | [], _, h => (h rfl).elim
 | d :: l, i, h => by
  unfold idxT at h ⊢
  split
  · rename_i hp
    exact ⟨0, rfl, by simp, rfl, by simpa using hp⟩
  · rename_i hp
    rw [if_neg hp] at h
    obtain ⟨j, h1, h2, h3, h4⟩ := idxT_some h
    refine ⟨j + 1, by rw [h1]; omega, by simpa using h2, ?_, by simpa using h4⟩
    rw [List.take_succ_cons, List.filter_cons, if_pos (by simp [hp]), h3]
theorem idxT_ge {p : D → Bool} (l : List D) (i : Nat) : decide (0 ≤ idxT p l i) = l.any p := by
 induction l generalizing i with
 | nil => rfl
 | cons d l ih =>
  unfold idxT
  split
  · rename_i h; simp [h]
  · rename_i h; rw [ih]; simp [h]
theorem thin_put {p : D → Bool} {l els : List D} {i j : Nat} (hlen : els.length = l.length) (hij : i ≤ j) (hj : j < l.length) (h1 : els.take i = (l.take j).filter (fun d => !p d)) (h2 : els.drop j = l.drop j) (hp : p (l.getD j .undef) = false) :
  (els.set i (l.getD j .undef)).length = l.length ∧ (els.set i (l.getD j .undef)).take (i + 1) = (l.take (j + 1)).filter (fun d => !p d) ∧ (els.set i (l.getD j .undef)).drop (j + 1) = l.drop (j + 1) := by
 have e1 : l.getD j .undef = l[j] := by simp [zq1, hj]
 refine ⟨by simpa using hlen, ?_, ?_⟩
 · rw [List.take_add_one, List.take_set_of_le (Nat.le_refl _), h1, List.take_add_one, List.filter_append]
   rw [e1] at hp ⊢
   simp [hj, show i < els.length by omega, hp]
 · rw [List.drop_set_of_lt (by omega)]
   have := congrArg (List.drop 1) h2
   simpa [List.drop_drop, Nat.add_comm] using this
theorem thin_skip {p : D → Bool} {l els : List D} {i j : Nat} (hj : j < l.length) (h1 : els.take i = (l.take j).filter (fun d => !p d)) (h2 : els.drop j = l.drop j) (hp : p (l.getD j .undef) = true) :
  els.take i = (l.take (j + 1)).filter (fun d => !p d) ∧ els.drop (j + 1) = l.drop (j + 1) := by
 have e1 : l.getD j .undef = l[j] := by simp [zq1, hj]
 refine ⟨?_, ?_⟩
 · rw [h1, List.take_add_one, List.filter_append]
   rw [e1] at hp
   simp [hj, hp]
 · have := congrArg (List.drop 1) h2
   simpa [List.drop_drop, Nat.add_comm] using this
theorem thin_get {l els : List D} {j : Nat} (hlen : els.length = l.length) (hj : j < l.length) (h2 : els.drop j = l.drop j) : els.getD j .undef = l.getD j .undef := by
 have := congrArg (fun x => x[0]?) h2
 simp only [List.getElem?_drop, Nat.add_zero] at this
 simp [zq1, this]
end Go.Proofs.YtapfhcnigmighaaGreat.GD
namespace Go.Proofs.YtapfhcnigmighaaGreat.Own
open Go Go.Proofs.YtapfhcnigmighaaGreat.GD
def insK (x : Int) : List Int → List Int
 | [] => [x]
 | k :: ks => if x = k then k :: ks else k :: insK x ks
theorem keq_u32 (a b : Int) : keqD (D.int .u32 a) (D.int .u32 b) = decide (a = b) := by
 simp [keqD, eqL, eq0, cellsOf]; rfl
theorem mputK_u32 (x : Int) : ∀ K : List Int, mputK (D.int .u32 x) (K.map (D.int .u32)) = (insK x K).map (D.int .u32)
 | [] => rfl
 | k :: ks => by
  simp only [List.map_cons, mputK, keq_u32, insK]
  by_cases h : x = k
  · simp [h]
  · simp [h, mputK_u32 x ks]
theorem mdelK_u32 (x : Int) : ∀ K : List Int, mdelK (D.int .u32 x) (K.map (D.int .u32)) = (K.erase x).map (D.int .u32)
 | [] => rfl
 | k :: ks => by
  simp only [List.map_cons, mdelK, keq_u32, List.erase_cons]
  by_cases h : x = k
  · simp [h]
  · have h' : ¬ k = x := fun e => h e.symm
    simp [h, h', mdelK_u32 x ks]
theorem insK_len (x : Int) : ∀ K : List Int, (insK x K).length ≤ K.length + 1
 | [] => by simp [insK]
 | k :: ks => by
  unfold insK
  split
  · simp
  · have := insK_len x ks; simp; omega
def keysOf (K : List Int) : List Int → List Int
 | [] => K
 | x :: xs => keysOf (insK x K) xs
def unionK (L : List Int) : List Int := if 1 < (keysOf [] L).length then (keysOf [] L).erase 0 else keysOf [] L
def unionL (L : List Int) : List Int := (unionK L).mergeSort fun x y => decide (x ≤ y)
theorem keysOf_len : ∀ (L K : List Int), (keysOf K L).length ≤ K.length + L.length
 | [], K => by simp [keysOf]
 | x :: xs, K => by
  have h1 := keysOf_len xs (insK x K)
  have h2 := insK_len x K
  simp only [keysOf, List.length_cons]; omega
theorem all_u32 (K : List Int) : (K.map (D.int .u32)).all isU32 = true := by simp [isU32]
theorem sorted_u32 (K : List Int) (vs : List D) (h : K.length < 65536) : (Cl ty tab 141 [.mpl (K.map (D.int .u32)) vs]).bind (fun r4 => Cl ty tab 140 [.fn 156 ((r4.getD 0 .undef).cell 0).caps]) = some [.ov 51 K.isEmpty ((K.mergeSort fun x y => decide (x ≤ y)).map (D.int .u32))] := by
 rw [s_maps_Keys]
 simp only [keysSpec, Option.bind_some, List.getD_cons_zero, D.cell, D.caps, s_slices_Sorted, sortedSpec]
 have e : (K.map (D.int .u32)).map D.i = K := by
  rw [List.map_map]; exact (List.map_congr_left fun x _ => rfl).trans (List.map_id _)
 rw [if_pos ⟨trivial, all_u32 K, by simpa using h⟩, e]
 simp
theorem concat_ok (n : Bool) (A B : List D) (n1 n2 : Bool) (hA : A.length < 65536) (hB : B.length < 65536) : ∃ nb, Cl ty tab 139 [.sl 26 n [.sl 51 n1 A, .sl 51 n2 B]] = some [.ov 51 nb (A ++ B)] := by
 have key : ∀ nb0, Cl ty tab 153 [.ov 51 true [], .int .i64 ((A.length + B.length : Nat) : Int)] = some [.ov 51 nb0 []] → ∃ nb, Cl ty tab 139 [.sl 26 n [.sl 51 n1 A, .sl 51 n2 B]] = some [.ov 51 nb (A ++ B)] := fun nb0 hg => by
  refine ⟨B.isEmpty && (A.isEmpty && nb0), ?_⟩
  refine s_slices_Concat 3 n _ ?_
  unfold slices_Concat
  simp only [iter]
  unfold slices_Concat.b0
  have e1 : ((A.length : Nat) : Int) + ((B.length : Nat) : Int) = ((A.length + B.length : Nat) : Int) := by omega
  simp (disch := omega) only [gds, List.getD_cons_zero, Int.zero_add, e1, hg, show ((1 : Int)).toNat = 1 from rfl, show ((0 : Int)).toNat = 0 from rfl, iter]
  unfold slices_Concat.b1
  simp (disch := omega) only [gds, List.getD_cons_zero, Int.zero_add, show ((1 : Int)).toNat = 1 from rfl, show ((0 : Int)).toNat = 0 from rfl, List.length_append]
 refine key (decide (((A.length + B.length : Nat) : Int) = 0)) ?_
 rw [s_slices_Grow, growSpec]
 rw [if_pos ⟨rfl, by omega, by omega⟩]
theorem union_ok (x y : Int) (n1 n2 : Bool) (A B : List Int) (hA : A.length ≤ 1000) (hB : B.length ≤ 1000) : Cl ty tab 103 [.agg [.int .u32 x, .sl 51 n1 (A.map (D.int .u32))], .agg [.int .u32 y, .sl 51 n2 (B.map (D.int .u32))]] =
  some [.agg [.int .u32 x, .sl 51 (unionK (A ++ B)).isEmpty ((unionL (A ++ B)).map (D.int .u32))]] := by
 obtain ⟨nb, hc⟩ := concat_ok false (A.map (D.int .u32)) (B.map (D.int .u32)) n1 n2 (by simp; omega) (by simp; omega)
 refine s_local_union 2002 _ _ _ _ _ _ ?_
 unfold local_union
 rw [hc]
 simp only [Option.bind_some]
 rw [← List.map_append]
 have hl : (A ++ B).length ≤ 2000 := by simp; omega
 generalize A ++ B = L at *
 have := iter_wf (R := List D) (F := local_union.b0 (Cl ty tab) 2002 [.ov 51 nb (L.map (D.int .u32))]) (fun s : Nat × List Int × List D => [.int .i64 s.1, .pv [.int .u32 x, .sl 51 n1 (A.map (D.int .u32))], .pv [.int .u32 0, .ov 51 true []], .mpv (s.2.1.map (D.int .u32)) s.2.2, .ov 51 nb (L.map (D.int .u32))])
  (fun s => some [.agg [.int .u32 x, .sl 51 (unionK L).isEmpty ((unionL L).map (D.int .u32))]]) (fun s => L.length + 1 - s.1) (fun s => s.1 ≤ L.length ∧ keysOf s.2.1 (L.drop s.1) = keysOf [] L) (fun s hs ag ih => ?_) 2002 (0, [], []) ⟨Nat.zero_le _, rfl⟩ (by dsimp only; omega)
 · dsimp only at this
   simp (disch := omega) only [gds]
   exact this
 · obtain ⟨i, K, vs⟩ := s
   obtain ⟨h1, h2⟩ := hs
   dsimp only at h1 h2 ih ⊢
   unfold local_union.b0
   rcases Nat.lt_or_ge i L.length with c | c
   · have g : (L.map (D.int .u32)).getD i .undef = .int .u32 L[i] := by simp [zq1, c]
     rw [List.drop_eq_getElem_cons c] at h2
     have ih' := ih (i + 1, insK L[i] K, mputV (D.int .u32 L[i]) (D.bool true) (K.map (D.int .u32)) vs) ⟨by dsimp only; omega, h2⟩ (by dsimp only; omega)
     dsimp only at ih'
     rw [show ((i + 1 : Nat) : Int) = (i : Int) + 1 by omega] at ih'
     clear ih
     simp (disch := omega) only [gds, g, mputK_u32, D.mks, D.mvs]
     exact ih'
   · obtain rfl : i = L.length := by omega
     rw [List.drop_length] at h2
     have h2 : K = keysOf [] L := h2
     have hK := keysOf_len L []
     clear ih
     unfold unionL unionK
     rw [← h2]
     rw [← h2] at hK
     simp only [List.length_nil] at hK
     by_cases c2 : 1 < K.length
     · have hs := sorted_u32 (K.erase 0) (mdelV (D.int .u32 0) (K.map (D.int .u32)) vs) (by have := List.length_erase_le (a := (0 : Int)) (l := K); omega)
       rw [if_pos c2]
       rw [Option.bind_eq_some_iff] at hs
       obtain ⟨r4, e1, e2⟩ := hs
       simp (disch := omega) only [gds, mdelK_u32, D.mks, D.mvs, e1, e2]
     · have hs := sorted_u32 K vs (by omega)
       rw [if_neg c2]
       rw [Option.bind_eq_some_iff] at hs
       obtain ⟨r4, e1, e2⟩ := hs
       simp (disch := omega) only [gds, D.mks, D.mvs, e1, e2]
end Go.Proofs.YtapfhcnigmighaaGreat.Own
namespace Go.Proofs.YtapfhcnigmighaaGreat.Own
open Go Go.Proofs.YtapfhcnigmighaaGreat.GD
theorem index_loop {F : List D → (List D → Option (List D)) → Option (List D)} (l : List D) (p : D → Bool) (hl : l.length ≤ 60000) (step : ∀ i (hi : i < l.length), ∀ ag, F [.int .i64 i] ag = if p l[i] = true then some [.int .i64 i] else ag [.int .i64 ((i : Int) + 1)]) (fin : ∀ ag, F [.int .i64 l.length] ag = some [.int .i64 (-1)]) : iter 60001 F [.int .i64 0] = some [.int .i64 (idxT p l 0)] := by
 have := iter_ix (R := List D) (F := F) l.length (fun i => [.int .i64 i]) (fun i => some [.int .i64 (idxT p (l.drop i) i)]) (fun i hi ag ha => ?_) (fun ag => ?_) 60001 (by omega) 0 (by omega)
 · simpa using this
 · rw [List.drop_eq_getElem_cons hi, step i hi ag]
   unfold idxT
   split
   · rfl
   · rw [← ha]; rfl
 · rw [fin, List.drop_length]
   rfl
theorem delete_loop {F : List D → (List D → Option (List D)) → Option (List D)} (te : TypeId) (nb : Bool) (l : List D) (p : D → Bool) (hl : l.length ≤ 60000)
  (step : ∀ (i q : Nat) (els : List D) ag, q < l.length → i ≤ q → els.length = l.length → els.getD q .undef = l.getD q .undef → F [.int .i64 i, .int .i64 q, .ov te nb els] ag =
   if p (l.getD q .undef) = true then ag [.int .i64 i, .int .i64 ((q : Int) + 1), .ov te nb els] else ag [.int .i64 ((i : Int) + 1), .int .i64 ((q : Int) + 1), .ov te nb (els.set i (l.getD q .undef))])
  (fin : ∀ (i : Nat) (els : List D) ag, i ≤ l.length → els.length = l.length → (∀ x : List D, ((els.take i ++ x).take (i - (0 : Int).toNat)) = els.take i) → F [.int .i64 i, .int .i64 l.length, .ov te nb els] ag = some [.ov te nb (els.take i)])
  (j : Nat) (h2 : j < l.length) (h3 : (l.take j).filter (fun d => !p d) = l.take j) (h4 : p (l.getD j .undef) = true) : iter 60001 F [.int .i64 j, .int .i64 ((j : Int) + 1), .ov te nb l] = some [.ov te nb (l.filter fun d => !p d)] := by
 have := iter_wf (R := List D) (F := F) (fun s : Nat × Nat × List D => [.int .i64 s.1, .int .i64 s.2.1, .ov te nb s.2.2]) (fun _ => some [.ov te nb (l.filter fun d => !p d)]) (fun s => l.length - s.2.1)
  (fun s => s.2.2.length = l.length ∧ s.1 ≤ s.2.1 ∧ s.2.1 ≤ l.length ∧ s.2.2.take s.1 = (l.take s.2.1).filter (fun d => !p d) ∧ s.2.2.drop s.2.1 = l.drop s.2.1) (fun s hs ag ih => ?_) 60001 (j, j + 1, l)
  ⟨rfl, by dsimp only; omega, by dsimp only; omega, by
   dsimp only
   rw [List.take_add_one, List.filter_append, h3]
   simp [zq1, h2] at h4
   simp [h2, h4], rfl⟩ (by dsimp only; omega)
 · dsimp only at this
   exact this
 · obtain ⟨i, q, els⟩ := s
   obtain ⟨g1, g2, g3, g4, g5⟩ := hs
   dsimp only at g1 g2 g3 g4 g5 ih ⊢
   rcases Nat.lt_or_ge q l.length with c | c
   · rw [step i q els ag c g2 g1 (thin_get g1 c g5)]
     cases hc : p (l.getD q .undef)
     · obtain ⟨t1, t2, t3⟩ := thin_put g1 g2 c g4 g5 hc
       exact ih (i + 1, q + 1, els.set i (l.getD q .undef)) ⟨t1, by dsimp only; omega, by dsimp only; omega, t2, t3⟩ (by dsimp only; omega)
     · obtain ⟨t2, t3⟩ := thin_skip c g4 g5 hc
       exact ih (i, q + 1, els) ⟨g1, by dsimp only; omega, by dsimp only; omega, t2, t3⟩ (by dsimp only; omega)
   · obtain rfl : q = l.length := by omega
     rw [List.take_length] at g4
     rw [fin i els ag g2 g1 fun x => by rw [show i - (0 : Int).toNat = i from rfl, List.take_append_of_le_length (by simp; omega), List.take_take, Nat.min_self], g4]
section
variable (n1 n2 n3 n4 n5 n6 : Bool) (l1 l2 l3 l4 l5 l6 : List D) (p : D → Bool) (n : Bool) (l : List D) (hl : l.length ≤ 60000) (hE : ∀ d, d ∈ l → D.agg (etaCells ks1 d 0) = d)
 (hp : ∀ d, d ∈ l → Cl ty tab 55 [d, D.rp [D.sl 70 n1 l1, D.sl 73 n2 l2, D.sl 51 n3 l3, D.sl 58 n4 l4, D.sl 84 n5 l5, D.sl 64 n6 l6] 0] = some [.bool (p d)])
include hl hE hp
theorem ixKeepO : Cl ty tab 146 [.sl 58 n l, .fn 55 [D.rp [D.sl 70 n1 l1, D.sl 73 n2 l2, D.sl 51 n3 l3, D.sl 58 n4 l4, D.sl 84 n5 l5, D.sl 64 n6 l6] 0]] = some [.int .i64 (idxT p l 0)] := by
 refine s_slices_IndexFunc_146 60001 n l n1 l1 n2 l2 n3 l3 n4 l4 n5 l5 n6 l6 (index_loop l p hl (fun i hi ag => ?_) fun ag => ?_)
 · unfold slices_IndexFunc_146.b0
   have hm := List.getElem_mem hi
   have e := hE _ hm
   have e2 := hp _ hm
   clear hE hp
   cases hc : p l[i] <;> simp (disch := omega) only [gds, getD_get, e, e2, hc]
 · unfold slices_IndexFunc_146.b0
   simp (disch := omega) only [gds]
theorem keepO_ok (hn : n = true → l = []) : ∃ nb, (nb = true → l = []) ∧ Cl ty tab 54 [.sl 58 n l, .fn 55 [D.rp [D.sl 70 n1 l1, D.sl 73 n2 l2, D.sl 51 n3 l3, D.sl 58 n4 l4, D.sl 84 n5 l5, D.sl 64 n6 l6] 0]] = some [.ov 58 nb (l.filter fun d => !p d)] := by
 have hcl : ∃ nb, (nb = true → l = []) ∧ Cl ty tab 114 [.sl 58 n l] = some [.ov 58 nb l] := by
  cases n with
  | true => exact ⟨true, hn, s_slices_Clone_114 0 true l (by unfold slices_Clone_114; rw [hn rfl]; rfl)⟩
  | false => exact ⟨l.isEmpty && false, fun h => by simp at h, s_slices_Clone_114 0 false l (by unfold slices_Clone_114; simp (disch := omega) only [gds])⟩
 obtain ⟨nb, hnb, hcl⟩ := hcl
 refine ⟨nb, hnb, s_local_keep_54 0 n l n1 l1 n2 l2 n3 l3 n4 l4 n5 l5 n6 l6 ?_⟩
 unfold local_keep_54
 have hx := ixKeepO n1 n2 n3 n4 n5 n6 l1 l2 l3 l4 l5 l6 p nb l hl hE hp
 have hd : Cl ty tab 117 [.ov 58 nb l, .fn 55 [D.rp [D.sl 70 n1 l1, D.sl 73 n2 l2, D.sl 51 n3 l3, D.sl 58 n4 l4, D.sl 84 n5 l5, D.sl 64 n6 l6] 0]] = some [.ov 58 nb (l.filter fun d => !p d)] := by
  refine s_slices_DeleteFunc_117 60001 nb l n1 l1 n2 l2 n3 l3 n4 l4 n5 l5 n6 l6 ?_
  unfold slices_DeleteFunc_117
  rw [hx]
  by_cases h0 : idxT p l 0 = -1
  · simp (disch := omega) only [gds, h0, idxT_none h0]
  · obtain ⟨j, h1, h2, h3, h4⟩ := idxT_some h0
    rw [Nat.zero_add] at h1
    have := delete_loop (F := slices_DeleteFunc_117.b0 (Cl ty tab) 60001 l n1 l1 n2 l2 n3 l3 n4 l4 n5 l5 n6 l6) 58 nb l p hl (fun i q els ag c g2 g1 e3 => ?_) (fun i els ag g2 g1 e4 => ?_) j h2 h3 h4
    · rw [h1]
      simp (disch := omega) only [gds]
      exact this
    · unfold slices_DeleteFunc_117.b0
      have hm : l.getD q .undef ∈ l := mem_getD c
      have e := hE _ hm
      have e2 := hp _ hm
      clear hE hp
      cases hc : p (l.getD q .undef) <;> simp (disch := omega) only [gds, e3, e, e2, hc]
    · unfold slices_DeleteFunc_117.b0
      clear hE hp
      simp (disch := omega) only [gds, e4]
 simp (disch := omega) only [gds, hcl, hd]
end
section
variable (n1 n2 n3 n4 n5 n6 : Bool) (l1 l2 l3 l4 l5 l6 : List D) (p : D → Bool) (n : Bool) (l : List D) (hl : l.length ≤ 60000) (hE : ∀ d, d ∈ l → D.agg (kKsE d 0) = d)
 (hp : ∀ d, d ∈ l → Cl ty tab 59 [d, D.rp [D.sl 70 n1 l1, D.sl 73 n2 l2, D.sl 51 n3 l3, D.sl 58 n4 l4, D.sl 84 n5 l5, D.sl 64 n6 l6] 0] = some [.bool (p d)])
include hl hE hp
theorem ixKeepK : Cl ty tab 147 [.sl 64 n l, .fn 59 [D.rp [D.sl 70 n1 l1, D.sl 73 n2 l2, D.sl 51 n3 l3, D.sl 58 n4 l4, D.sl 84 n5 l5, D.sl 64 n6 l6] 0]] = some [.int .i64 (idxT p l 0)] := by
 refine s_slices_IndexFunc_147 60001 n l n1 l1 n2 l2 n3 l3 n4 l4 n5 l5 n6 l6 (index_loop l p hl (fun i hi ag => ?_) fun ag => ?_)
 · unfold slices_IndexFunc_147.b0
   have hm := List.getElem_mem hi
   have e := hE _ hm
   have e2 := hp _ hm
   clear hE hp
   cases hc : p l[i] <;> simp (disch := omega) only [gds, getD_get, e, e2, hc]
 · unfold slices_IndexFunc_147.b0
   simp (disch := omega) only [gds]
theorem keepK_ok (hn : n = true → l = []) : ∃ nb, (nb = true → l = []) ∧ Cl ty tab 58 [.sl 64 n l, .fn 59 [D.rp [D.sl 70 n1 l1, D.sl 73 n2 l2, D.sl 51 n3 l3, D.sl 58 n4 l4, D.sl 84 n5 l5, D.sl 64 n6 l6] 0]] = some [.ov 64 nb (l.filter fun d => !p d)] := by
 have hcl : ∃ nb, (nb = true → l = []) ∧ Cl ty tab 115 [.sl 64 n l] = some [.ov 64 nb l] := by
  cases n with
  | true => exact ⟨true, hn, s_slices_Clone_115 0 true l (by unfold slices_Clone_115; rw [hn rfl]; rfl)⟩
  | false => exact ⟨l.isEmpty && false, fun h => by simp at h, s_slices_Clone_115 0 false l (by unfold slices_Clone_115; simp (disch := omega) only [gds])⟩
 obtain ⟨nb, hnb, hcl⟩ := hcl
 refine ⟨nb, hnb, s_local_keep_58 0 n l n1 l1 n2 l2 n3 l3 n4 l4 n5 l5 n6 l6 ?_⟩
 unfold local_keep_58
 have hx := ixKeepK n1 n2 n3 n4 n5 n6 l1 l2 l3 l4 l5 l6 p nb l hl hE hp
 have hd : Cl ty tab 119 [.ov 64 nb l, .fn 59 [D.rp [D.sl 70 n1 l1, D.sl 73 n2 l2, D.sl 51 n3 l3, D.sl 58 n4 l4, D.sl 84 n5 l5, D.sl 64 n6 l6] 0]] = some [.ov 64 nb (l.filter fun d => !p d)] := by
  refine s_slices_DeleteFunc_119 60001 nb l n1 l1 n2 l2 n3 l3 n4 l4 n5 l5 n6 l6 ?_
  unfold slices_DeleteFunc_119
  rw [hx]
  by_cases h0 : idxT p l 0 = -1
  · simp (disch := omega) only [gds, h0, idxT_none h0]
  · obtain ⟨j, h1, h2, h3, h4⟩ := idxT_some h0
    rw [Nat.zero_add] at h1
    have := delete_loop (F := slices_DeleteFunc_119.b0 (Cl ty tab) 60001 l n1 l1 n2 l2 n3 l3 n4 l4 n5 l5 n6 l6) 64 nb l p hl (fun i q els ag c g2 g1 e3 => ?_) (fun i els ag g2 g1 e4 => ?_) j h2 h3 h4
    · rw [h1]
      simp (disch := omega) only [gds]
      exact this
    · unfold slices_DeleteFunc_119.b0
      have hm : l.getD q .undef ∈ l := mem_getD c
      have e := hE _ hm
      have e2 := hp _ hm
      clear hE hp
      cases hc : p (l.getD q .undef) <;> simp (disch := omega) only [gds, e3, e, e2, hc]
    · unfold slices_DeleteFunc_119.b0
      clear hE hp
      simp (disch := omega) only [gds, e4]
 simp (disch := omega) only [gds, hcl, hd]
end
section
variable (n1 n2 n3 n4 n5 n6 : Bool) (l1 l2 l3 l4 l5 l6 : List D) (p : D → Bool) (n : Bool) (l : List D) (hl : l.length ≤ 60000) (hE : ∀ d, d ∈ l → D.agg [(D.int .u32 ((d.cell 0).i)), (D.sl 51 (d.cell 1).nb (d.cell 1).els)] = d)
 (hp : ∀ d, d ∈ l → Cl ty tab 63 [d, D.rp [D.sl 70 n1 l1, D.sl 73 n2 l2, D.sl 51 n3 l3, D.sl 58 n4 l4, D.sl 84 n5 l5, D.sl 64 n6 l6] 0] = some [.bool (p d)])
include hl hE hp
theorem ixKeepP : Cl ty tab 132 [.sl 84 n l, .fn 63 [D.rp [D.sl 70 n1 l1, D.sl 73 n2 l2, D.sl 51 n3 l3, D.sl 58 n4 l4, D.sl 84 n5 l5, D.sl 64 n6 l6] 0]] = some [.int .i64 (idxT p l 0)] := by
 refine s_slices_IndexFunc_132 60001 n l n1 l1 n2 l2 n3 l3 n4 l4 n5 l5 n6 l6 (index_loop l p hl (fun i hi ag => ?_) fun ag => ?_)
 · unfold slices_IndexFunc_132.b0
   have hm := List.getElem_mem hi
   have e := hE _ hm
   have e2 := hp _ hm
   clear hE hp
   cases hc : p l[i] <;> simp (disch := omega) only [gds, getD_get, e, e2, hc]
 · unfold slices_IndexFunc_132.b0
   simp (disch := omega) only [gds]
theorem keepP_ok (hn : n = true → l = []) : ∃ nb, (nb = true → l = []) ∧ Cl ty tab 62 [.sl 84 n l, .fn 63 [D.rp [D.sl 70 n1 l1, D.sl 73 n2 l2, D.sl 51 n3 l3, D.sl 58 n4 l4, D.sl 84 n5 l5, D.sl 64 n6 l6] 0]] = some [.ov 84 nb (l.filter fun d => !p d)] := by
 have hcl : ∃ nb, (nb = true → l = []) ∧ Cl ty tab 122 [.sl 84 n l] = some [.ov 84 nb l] := by
  cases n with
  | true => exact ⟨true, hn, s_slices_Clone_122 0 true l (by unfold slices_Clone_122; rw [hn rfl]; rfl)⟩
  | false => exact ⟨l.isEmpty && false, fun h => by simp at h, s_slices_Clone_122 0 false l (by unfold slices_Clone_122; simp (disch := omega) only [gds])⟩
 obtain ⟨nb, hnb, hcl⟩ := hcl
 refine ⟨nb, hnb, s_local_keep_62 0 n l n1 l1 n2 l2 n3 l3 n4 l4 n5 l5 n6 l6 ?_⟩
 unfold local_keep_62
 have hx := ixKeepP n1 n2 n3 n4 n5 n6 l1 l2 l3 l4 l5 l6 p nb l hl hE hp
 have hd : Cl ty tab 121 [.ov 84 nb l, .fn 63 [D.rp [D.sl 70 n1 l1, D.sl 73 n2 l2, D.sl 51 n3 l3, D.sl 58 n4 l4, D.sl 84 n5 l5, D.sl 64 n6 l6] 0]] = some [.ov 84 nb (l.filter fun d => !p d)] := by
  refine s_slices_DeleteFunc_121 60001 nb l n1 l1 n2 l2 n3 l3 n4 l4 n5 l5 n6 l6 ?_
  unfold slices_DeleteFunc_121
  rw [hx]
  by_cases h0 : idxT p l 0 = -1
  · simp (disch := omega) only [gds, h0, idxT_none h0]
  · obtain ⟨j, h1, h2, h3, h4⟩ := idxT_some h0
    rw [Nat.zero_add] at h1
    have := delete_loop (F := slices_DeleteFunc_121.b0 (Cl ty tab) 60001 l n1 l1 n2 l2 n3 l3 n4 l4 n5 l5 n6 l6) 84 nb l p hl (fun i q els ag c g2 g1 e3 => ?_) (fun i els ag g2 g1 e4 => ?_) j h2 h3 h4
    · rw [h1]
      simp (disch := omega) only [gds]
      exact this
    · unfold slices_DeleteFunc_121.b0
      have hm : l.getD q .undef ∈ l := mem_getD c
      have e := hE _ hm
      have e2 := hp _ hm
      clear hE hp
      cases hc : p (l.getD q .undef) <;> simp (disch := omega) only [gds, e3, e, e2, hc]
    · unfold slices_DeleteFunc_121.b0
      clear hE hp
      simp (disch := omega) only [gds, e4]
 simp (disch := omega) only [gds, hcl, hd]
end
end Go.Proofs.YtapfhcnigmighaaGreat.Own
namespace Go.Proofs.YtapfhcnigmighaaGreat.Own
open Go Go.Proofs.YtapfhcnigmighaaGreat.GD
def covN (f : Int) (h l : Nat) (n : Int) (f2 : Int) (h2 l2 : Nat) (n2 : Int) : Bool :=
 decide (checkP f h l n = 0 ∧ checkP f2 h2 l2 n2 = 0 ∧ f = f2 ∧ n ≤ n2 ∧ cutA f h2 l2 (widthF f - n.toNat) = (h, l))
theorem checkP_ok {f : Int} {h l : Nat} {n : Int} (hp : checkP f h l n = 0) : (f = 4 ∨ f = 6) ∧ addrOk f h l = true ∧ 0 ≤ n ∧ n ≤ (widthF f : Nat) := by
 unfold checkP at hp
 rcases widthF_cases f with h0 | h0
 · rw [if_pos h0] at hp; cases hp
 · have hw : ¬ widthF f = 0 := by rcases h0 with ⟨_, h⟩ | ⟨_, h⟩ <;> omega
   rw [if_neg hw] at hp
   split at hp
   · rename_i hc
     exact ⟨by rcases h0 with ⟨h, _⟩ | ⟨h, _⟩; exact .inl h; exact .inr h, hc.1, hc.2.1, hc.2.2.1⟩
   · cases hp
theorem covers_n (f : Int) (h l : Nat) (n : Int) (f2 : Int) (h2 l2 : Nat) (n2 : Int) (hr : In64 h l) (hr2 : In64 h2 l2) : Cl ty tab 28 [P4 f h l n, P4 f2 h2 l2 n2] = some [.bool (covN f h l n f2 h2 l2 n2)] := by
 refine s_number_Covers 0 _ _ _ _ _ _ _ _ ?_
 unfold number_Covers covN
 have c1 := check_prefix_ok f h l n hr
 have c2 := check_prefix_ok f2 h2 l2 n2 hr2
 by_cases h1 : checkP f h l n = 0
 · by_cases h3 : checkP f2 h2 l2 n2 = 0
   · by_cases h4 : f = f2
     · subst h4
       by_cases h5 : n2 < n
       · have : ¬ n ≤ n2 := by omega
         simp (disch := omega) only [gds, c1, c2, h1, h3, h5, this, true_and, false_and]
       · obtain ⟨g1, g2, g3, g4⟩ := checkP_ok h1
         obtain ⟨g5, g6, g7, g8⟩ := checkP_ok h3
         obtain ⟨mh, ml, hm, hmask, hcut⟩ := mask_ok f n g1 g3 g4
         have hand := and_ok h2 l2 mh ml hr2 hm
         have hc := hcut h2 l2 hr2 g6
         have h6 : n ≤ n2 := by omega
         rw [← hc]
         clear hcut hc
         simp (disch := omega) only [gds, c1, c2, h1, h3, h5, h6, hmask, hand, true_and]
         by_cases q1 : h2 &&& mh = h
         · by_cases q2 : l2 &&& ml = l
           · have e1 : ((h2 &&& mh : Nat) : Int) = h := by rw [q1]
             have e2 : ((l2 &&& ml : Nat) : Int) = l := by rw [q2]
             rw [e1, e2]
             simp [q1, q2]
           · have e2 : ¬ ((l2 &&& ml : Nat) : Int) = l := by omega
             simp [q2, e2]
         · have e1 : ¬ ((h2 &&& mh : Nat) : Int) = h := by omega
           simp [q1, e1]
     · simp (disch := omega) only [gds, c1, c2, h1, h3, h4, false_and, true_and]
   · simp (disch := omega) only [gds, c1, c2, h1, h3, false_and, true_and]
 · simp (disch := omega) only [gds, c1, h1, false_and]
def covO (f d : D) : Bool := covN (f.cell 2).i (f.cell 3).i.toNat (f.cell 4).i.toNat (f.cell 5).i (d.cell 1).i (d.cell 2).i.toNat (d.cell 3).i.toNat (d.cell 4).i
def takesO (f d : D) : Bool := (!(f.cell 0).b || covO f d) && (!(f.cell 1).b || (f.cell 6).i == (d.cell 0).i)
def takesK (f d : D) : Bool := (!(f.cell 1).b || eqCells (etaCells ks6 f 3) ((kKsE d 0).drop 1)) && (!(f.cell 0).b || (f.cell 2).i == (d.cell 0).i)
theorem covers_ok (f d : D) (hf : Fg f) (hd : Og d) : Cl ty tab 28 [.agg [.int .u8 (f.cell 2).i, .int .u64 (f.cell 3).i, .int .u64 (f.cell 4).i, .int .i64 (f.cell 5).i], .agg [.int .u8 (d.cell 1).i, .int .u64 (d.cell 2).i, .int .u64 (d.cell 3).i, .int .i64 (d.cell 4).i]] = some [.bool (covO f d)] := by
 have h1 := hf.hi
 have h2 := hf.lo
 have h3 := hd.hi
 have h4 := hd.lo
 have := covers_n (f.cell 2).i (f.cell 3).i.toNat (f.cell 4).i.toNat (f.cell 5).i (d.cell 1).i (d.cell 2).i.toNat (d.cell 3).i.toNat (d.cell 4).i ⟨by omega, by omega⟩ ⟨by omega, by omega⟩
 simp only [P4, Int.toNat_of_nonneg h1.1, Int.toNat_of_nonneg h2.1, Int.toNat_of_nonneg h3.1, Int.toNat_of_nonneg h4.1] at this
 exact this
theorem takesO_ok (f d : D) (hf : Fg f) (hd : Og d) : Cl ty tab 57 [f, .rp [.int .u32 (d.cell 0).i, .int .u8 (d.cell 1).i, .int .u64 (d.cell 2).i, .int .u64 (d.cell 3).i, .int .i64 (d.cell 4).i, .int .i64 (d.cell 5).i] 0] = some [.bool (takesO f d)] := by
 have := s_local_Filter_1_1 0 f (d.cell 0).i (d.cell 1).i (d.cell 2).i (d.cell 3).i (d.cell 4).i (d.cell 5).i (r := [.bool (takesO f d)]) ?_
 · rwa [hf.eta] at this
 unfold local_Filter_1_1 takesO
 have hc := covers_ok f d hf hd
 cases h0 : (f.cell 0).b <;> cases h1 : (f.cell 1).b <;> cases h2 : covO f d <;> simp (disch := omega) only [gds, h0, h1, h2, hc] <;> rfl
theorem anyO_ok (n : Bool) (l : List D) (d : D) (hl : ∀ f, f ∈ l → Fg f) (hn : l.length ≤ 60000) (hd : Og d) : Cl ty tab 56 [.sl 70 n l, .fn 57 [.rp [.int .u32 (d.cell 0).i, .int .u8 (d.cell 1).i, .int .u64 (d.cell 2).i, .int .u64 (d.cell 3).i, .int .i64 (d.cell 4).i, .int .i64 (d.cell 5).i] 0]] = some [.bool (l.any fun f => takesO f d)] := by
 have hix : Cl ty tab 118 [.sl 70 n l, .fn 57 [.rp [.int .u32 (d.cell 0).i, .int .u8 (d.cell 1).i, .int .u64 (d.cell 2).i, .int .u64 (d.cell 3).i, .int .i64 (d.cell 4).i, .int .i64 (d.cell 5).i] 0]] = some [.int .i64 (idxT (fun f => takesO f d) l 0)] := by
  refine s_slices_IndexFunc_118 60001 n l _ _ _ _ _ _ ?_
  unfold slices_IndexFunc_118
  have := iter_ix (R := List D) (F := slices_IndexFunc_118.b0 (Cl ty tab) 60001 l (d.cell 0).i (d.cell 1).i (d.cell 2).i (d.cell 3).i (d.cell 4).i (d.cell 5).i) l.length (fun i => [.int .i64 i]) (fun i => some [.int .i64 (idxT (fun f => takesO f d) (l.drop i) i)]) (fun i hi ag ha => ?_) (fun ag => ?_) 60001 (by omega) 0 (by omega)
  · simpa using this
  · have hf := hl _ (mem_getD hi)
    have e := hf.eta
    have e2 := takesO_ok _ d hf hd
    rw [List.drop_eq_getElem_cons hi]
    have e3 : l.getD i .undef = l[i] := by simp [zq1, hi]
    rw [e3] at e e2
    rw [show ((i + 1 : Nat) : Int) = (i : Int) + 1 by omega] at ha
    unfold slices_IndexFunc_118.b0 idxT
    cases hc : takesO l[i] d
    · rw [if_neg (show ¬ false = true by simp), ← ha]
      simp (disch := omega) only [gds, e3, e, e2, hc]
    · rw [if_pos (show true = true from rfl)]
      simp (disch := omega) only [gds, e3, e, e2, hc]
  · unfold slices_IndexFunc_118.b0
    rw [List.drop_length]
    simp (disch := omega) only [gds]
    rfl
 refine s_slices_ContainsFunc_56 0 n l _ _ _ _ _ _ ?_
 unfold slices_ContainsFunc_56
 simp (disch := omega) only [gds, hix, idxT_ge]
theorem filterO_ok (n1 n2 n3 n4 n5 n6 : Bool) (l1 l2 l3 l4 l5 l6 : List D) (d : D) (hl : ∀ f, f ∈ l1 → Fg f) (hn : l1.length ≤ 60000) (hd : Og d) : Cl ty tab 55 [d, D.rp [D.sl 70 n1 l1, D.sl 73 n2 l2, D.sl 51 n3 l3, D.sl 58 n4 l4, D.sl 84 n5 l5, D.sl 64 n6 l6] 0] = some [.bool (l1.any fun f => takesO f d)] := by
 have := s_local_Filter_1 0 d n1 l1 n2 l2 n3 l3 n4 l4 n5 l5 n6 l6 (r := [.bool (l1.any fun f => takesO f d)]) ?_
 · rwa [hd.eta] at this
 unfold local_Filter_1
 simp (disch := omega) only [gds, anyO_ok n1 l1 d hl hn hd]
theorem takesK_ok (f d : D) (hf : Yg f) (hd : Kg d) : Cl ty tab 61 [f, .rp (kKsE d 0) 0] = some [.bool (takesK f d)] := by
 have := s_local_Filter_2_1 0 f (d.cell 0).i (d.cell 1).i (d.cell 2).i (d.cell 3).i (d.cell 4).i (d.cell 5).i (d.cell 6).i (d.cell 7).i (d.cell 8).i (d.cell 9).i (d.cell 10).i (d.cell 11).i (d.cell 12).i (d.cell 13).i (d.cell 14).i (d.cell 15).i (d.cell 16).i (d.cell 17).i (r := [.bool (takesK f d)]) ?_
 · have e := hf.eta
   rw [show D.agg (etaCells ks4 f 0) = f from e] at this
   exact this
 unfold local_Filter_2_1 takesK
 rw [show (kKsE d 0).drop 1 = [(D.int .u8 (d.cell 1).i), (D.int .u8 (d.cell 2).i), (D.int .u8 (d.cell 3).i), (D.int .u8 (d.cell 4).i), (D.int .u8 (d.cell 5).i), (D.int .u8 (d.cell 6).i), (D.int .u8 (d.cell 7).i), (D.int .u8 (d.cell 8).i), (D.int .u8 (d.cell 9).i), (D.int .u8 (d.cell 10).i), (D.int .u8 (d.cell 11).i), (D.int .u8 (d.cell 12).i), (D.int .u8 (d.cell 13).i), (D.int .u8 (d.cell 14).i), (D.int .u8 (d.cell 15).i), (D.int .u8 (d.cell 16).i), (D.int .i64 (d.cell 17).i)] from rfl]
 generalize eqCells _ _ = c
 cases h0 : (f.cell 0).b <;> cases h1 : (f.cell 1).b <;> cases c <;> simp [h0, h1]
theorem anyK_ok (n : Bool) (l : List D) (d : D) (hl : ∀ f, f ∈ l → Yg f) (hn : l.length ≤ 60000) (hd : Kg d) : Cl ty tab 60 [.sl 73 n l, .fn 61 [.rp (kKsE d 0) 0]] = some [.bool (l.any fun f => takesK f d)] := by
 have hix : Cl ty tab 120 [.sl 73 n l, .fn 61 [.rp (kKsE d 0) 0]] = some [.int .i64 (idxT (fun f => takesK f d) l 0)] := by
  refine s_slices_IndexFunc_120 60001 n l (d.cell 0).i (d.cell 1).i (d.cell 2).i (d.cell 3).i (d.cell 4).i (d.cell 5).i (d.cell 6).i (d.cell 7).i (d.cell 8).i (d.cell 9).i (d.cell 10).i (d.cell 11).i (d.cell 12).i (d.cell 13).i (d.cell 14).i (d.cell 15).i (d.cell 16).i (d.cell 17).i ?_
  unfold slices_IndexFunc_120
  have := iter_ix (R := List D) (F := slices_IndexFunc_120.b0 (Cl ty tab) 60001 l (d.cell 0).i (d.cell 1).i (d.cell 2).i (d.cell 3).i (d.cell 4).i (d.cell 5).i (d.cell 6).i (d.cell 7).i (d.cell 8).i (d.cell 9).i (d.cell 10).i (d.cell 11).i (d.cell 12).i (d.cell 13).i (d.cell 14).i (d.cell 15).i (d.cell 16).i (d.cell 17).i) l.length (fun i => [.int .i64 i]) (fun i => some [.int .i64 (idxT (fun f => takesK f d) (l.drop i) i)]) (fun i hi ag ha => ?_) (fun ag => ?_) 60001 (by omega) 0 (by omega)
  · simpa using this
  · have hf := hl _ (mem_getD hi)
    have e : D.agg (etaCells ks4 (l.getD i .undef) 0) = l.getD i .undef := hf.eta
    have e2 : Cl ty tab 61 [l.getD i .undef, .rp [(D.int .u32 (d.cell 0).i), (D.int .u8 (d.cell 1).i), (D.int .u8 (d.cell 2).i), (D.int .u8 (d.cell 3).i), (D.int .u8 (d.cell 4).i), (D.int .u8 (d.cell 5).i), (D.int .u8 (d.cell 6).i), (D.int .u8 (d.cell 7).i), (D.int .u8 (d.cell 8).i), (D.int .u8 (d.cell 9).i), (D.int .u8 (d.cell 10).i), (D.int .u8 (d.cell 11).i), (D.int .u8 (d.cell 12).i), (D.int .u8 (d.cell 13).i), (D.int .u8 (d.cell 14).i), (D.int .u8 (d.cell 15).i), (D.int .u8 (d.cell 16).i), (D.int .i64 (d.cell 17).i)] 0] = some [.bool (takesK (l.getD i .undef) d)] := takesK_ok _ d hf hd
    rw [List.drop_eq_getElem_cons hi]
    have e3 : l.getD i .undef = l[i] := by simp [zq1, hi]
    rw [e3] at e e2
    rw [show ((i + 1 : Nat) : Int) = (i : Int) + 1 by omega] at ha
    unfold slices_IndexFunc_120.b0 idxT
    cases hc : takesK l[i] d
    · rw [if_neg (show ¬ false = true by simp), ← ha]
      simp (disch := omega) only [gds, e3, e, e2, hc]
    · rw [if_pos (show true = true from rfl)]
      simp (disch := omega) only [gds, e3, e, e2, hc]
  · unfold slices_IndexFunc_120.b0
    rw [List.drop_length]
    simp (disch := omega) only [gds]
    rfl
 refine s_slices_ContainsFunc_60 0 n l (d.cell 0).i (d.cell 1).i (d.cell 2).i (d.cell 3).i (d.cell 4).i (d.cell 5).i (d.cell 6).i (d.cell 7).i (d.cell 8).i (d.cell 9).i (d.cell 10).i (d.cell 11).i (d.cell 12).i (d.cell 13).i (d.cell 14).i (d.cell 15).i (d.cell 16).i (d.cell 17).i ?_
 unfold slices_ContainsFunc_60
 have hix' : Cl ty tab 120 [.sl 73 n l, .fn 61 [.rp [(D.int .u32 (d.cell 0).i), (D.int .u8 (d.cell 1).i), (D.int .u8 (d.cell 2).i), (D.int .u8 (d.cell 3).i), (D.int .u8 (d.cell 4).i), (D.int .u8 (d.cell 5).i), (D.int .u8 (d.cell 6).i), (D.int .u8 (d.cell 7).i), (D.int .u8 (d.cell 8).i), (D.int .u8 (d.cell 9).i), (D.int .u8 (d.cell 10).i), (D.int .u8 (d.cell 11).i), (D.int .u8 (d.cell 12).i), (D.int .u8 (d.cell 13).i), (D.int .u8 (d.cell 14).i), (D.int .u8 (d.cell 15).i), (D.int .u8 (d.cell 16).i), (D.int .i64 (d.cell 17).i)] 0]] = _ := hix
 simp (disch := omega) only [gds, hix', idxT_ge]
theorem filterK_ok (n1 n2 n3 n4 n5 n6 : Bool) (l1 l2 l3 l4 l5 l6 : List D) (d : D) (hl : ∀ f, f ∈ l2 → Yg f) (hn : l2.length ≤ 60000) (hd : Kg d) : Cl ty tab 59 [d, D.rp [D.sl 70 n1 l1, D.sl 73 n2 l2, D.sl 51 n3 l3, D.sl 58 n4 l4, D.sl 84 n5 l5, D.sl 64 n6 l6] 0] = some [.bool (l2.any fun f => takesK f d)] := by
 have := s_local_Filter_2 0 d n1 l1 n2 l2 n3 l3 n4 l4 n5 l5 n6 l6 (r := [.bool (l2.any fun f => takesK f d)]) ?_
 · have e : D.agg (etaCells ks2 d 0) = d := hd.eta
   rwa [e] at this
 unfold local_Filter_2
 have h : Cl ty tab 60 [.sl 73 n2 l2, .fn 61 [.rp [(D.int .u32 (d.cell 0).i), (D.int .u8 (d.cell 1).i), (D.int .u8 (d.cell 2).i), (D.int .u8 (d.cell 3).i), (D.int .u8 (d.cell 4).i), (D.int .u8 (d.cell 5).i), (D.int .u8 (d.cell 6).i), (D.int .u8 (d.cell 7).i), (D.int .u8 (d.cell 8).i), (D.int .u8 (d.cell 9).i), (D.int .u8 (d.cell 10).i), (D.int .u8 (d.cell 11).i), (D.int .u8 (d.cell 12).i), (D.int .u8 (d.cell 13).i), (D.int .u8 (d.cell 14).i), (D.int .u8 (d.cell 15).i), (D.int .u8 (d.cell 16).i), (D.int .i64 (d.cell 17).i)] 0]] = _ := anyK_ok n2 l2 d hl hn hd
 simp (disch := omega) only [gds, h]
theorem filterP_ok (n1 n2 n3 n4 n5 n6 : Bool) (l1 l2 l3 l4 l5 l6 : List D) (d : D) (hn : l3.length ≤ 60000) (hd : Pg d) : Cl ty tab 63 [d, D.rp [D.sl 70 n1 l1, D.sl 73 n2 l2, D.sl 51 n3 l3, D.sl 58 n4 l4, D.sl 84 n5 l5, D.sl 64 n6 l6] 0] = some [.bool (decide (0 ≤ idx (d.cell 0).i l3 0))] := by
 have := s_local_Filter_3 0 (d.cell 0).i (d.cell 1).nb (d.cell 1).els n1 l1 n2 l2 n3 l3 n4 l4 n5 l5 n6 l6 (r := [.bool (decide (0 ≤ idx (d.cell 0).i l3 0))]) ?_
 · rwa [hd.eta] at this
 unfold local_Filter_3
 have h := containsN_ok n3 l3 (d.cell 0).i hn
 simp (disch := omega) only [gds, h]
end Go.Proofs.YtapfhcnigmighaaGreat.Own
namespace Go.Proofs.YtapfhcnigmighaaGreat.Own
open Go Go.Proofs.YtapfhcnigmighaaGreat.GD
structure Nn (d : D) : Prop where
 nb : (d.cell 1).nb = true → (d.cell 1).els = []
 len : (d.cell 1).els.length ≤ 60000
theorem cloneP_ok (n : Bool) (l : List D) (hn : n = true → l = []) (hl : l.length ≤ 60000) : Cl ty tab 145 [.sl 51 n l] = some [.ov 51 n l] := by
 cases n with
 | true =>
  refine s_slices_Clone_145 0 true l ?_
  unfold slices_Clone_145
  rw [hn rfl]
  rfl
 | false =>
  refine s_slices_Clone_145 0 false l ?_
  unfold slices_Clone_145
  have e : (l.isEmpty && false) = false := by simp
  simp (disch := omega) only [gds, e]
theorem cloneO_ok (n : Bool) (l : List D) (hn : n = true → l = []) (hl : l.length ≤ 60000) : Cl ty tab 114 [.sl 58 n l] = some [.ov 58 n l] := by
 cases n with
 | true =>
  refine s_slices_Clone_114 0 true l ?_
  unfold slices_Clone_114
  rw [hn rfl]
  rfl
 | false =>
  refine s_slices_Clone_114 0 false l ?_
  unfold slices_Clone_114
  have e : (l.isEmpty && false) = false := by simp
  simp (disch := omega) only [gds, e]
theorem cloneK_ok (n : Bool) (l : List D) (hn : n = true → l = []) (hl : l.length ≤ 60000) : Cl ty tab 115 [.sl 64 n l] = some [.ov 64 n l] := by
 cases n with
 | true =>
  refine s_slices_Clone_115 0 true l ?_
  unfold slices_Clone_115
  rw [hn rfl]
  rfl
 | false =>
  refine s_slices_Clone_115 0 false l ?_
  unfold slices_Clone_115
  have e : (l.isEmpty && false) = false := by simp
  simp (disch := omega) only [gds, e]
theorem twinPath_ok (d : D) (hd : Pg d) (hn : Nn d) : Cl ty tab 116 [d] = some [d] := by
 have := s_diff_twinPath 0 (d.cell 0).i (d.cell 1).nb (d.cell 1).els (r := [d]) ?_
 · rwa [hd.eta] at this
 unfold diff_twinPath
 have h := cloneP_ok (d.cell 1).nb (d.cell 1).els hn.nb hn.len
 simp (disch := omega) only [gds, h]
 rw [hd.eta]
theorem twin_ok (n m t : Bool) (o p q : List D) (hn : n = true → o = []) (ht : t = true → q = []) (ho : o.length ≤ 60000) (hp : p.length ≤ 60000) (hq : q.length ≤ 60000) (hP : ∀ d, d ∈ p → Pg d ∧ Nn d) : Cl ty tab 53 [payD n m t o p q] = some [payD n p.isEmpty t o p q] := by
 obtain ⟨k, hk⟩ := rounds
 refine s_diff_Twin k _ _ _ _ _ _ ?_
 unfold diff_Twin
 have c1 := cloneO_ok n o hn ho
 have c2 := cloneK_ok t q ht hq
 have := iter_wf (F := diff_Twin.b0 (Cl ty tab) k p) (σ := Bool × Nat) (fun s => [.int .i64 s.2, .pv [.ov 58 true [], .ov 84 true [], .ov 64 true []], .pv [.ov 58 n o, .ov 84 s.1 (p.take s.2), .ov 64 t q]])
  (fun s => some [payD n p.isEmpty t o p q]) (fun s => p.length - s.2) (fun s => s.2 ≤ p.length ∧ s.1 = decide (s.2 = 0)) (fun s hs again ha => ?_) k (true, 0) ⟨by simp only; omega, by simp⟩ (by simp only; omega)
 · simp only [List.take_zero, Int.natCast_zero] at this
   simp (disch := omega) only [gds, c1, c2, this]
 · obtain ⟨b, i⟩ := s
   obtain ⟨s1, s2⟩ := hs
   simp only at s1 s2 ha ⊢
   unfold diff_Twin.b0
   by_cases hi : i < p.length
   · obtain ⟨g1, g2⟩ := hP p[i] (List.getElem_mem hi)
     have ht : p.take i ++ [p[i]] = p.take (i + 1) := by rw [List.take_succ_eq_append_getElem hi]
     have hl : (p.take i).length = i := by simp; omega
     have hw := twinPath_ok p[i] g1 g2
     have e := g1.eta
     have := ha (false, i + 1) ⟨by simp only; omega, by simp⟩ (by simp only; omega)
     clear ha
     simp only [Int.natCast_add, Int.natCast_one] at this
     rw [← ht] at this
     simp (disch := omega) only [gds, getD_get, hl, e, hw] at this ⊢
     exact this
   · have e : i = p.length := by omega
     subst e
     have e3 : b = p.isEmpty := by
      rw [s2]
      cases p <;> simp
     rw [List.take_length, e3]
     simp (disch := omega) only [gds]
end Go.Proofs.YtapfhcnigmighaaGreat.Own
namespace Go.Proofs.YtapfhcnigmighaaGreat.Own
open Go Go.Proofs.YtapfhcnigmighaaGreat.GD
def NnL (p : List D) : Prop := ∀ d, d ∈ p → (d.cell 1).nb = true → (d.cell 1).els = []
def goneO (x d : D) : Bool := (x.cell 0).els.any fun f => takesO f d
def goneK (x d : D) : Bool := (x.cell 1).els.any fun f => takesK f d
def goneP (x d : D) : Bool := decide (0 ≤ idx (d.cell 0).i (x.cell 2).els 0)
theorem payC_zero {o p q : List D} (h : payC o p q = 0) : o.length ≤ 1000 ∧ p.length ≤ 300 ∧ q.length ≤ 100 ∧ longP p = false := by
 unfold payC at h
 split at h
 · cases h
 · rename_i hc
   refine ⟨by omega, by omega, by omega, ?_⟩
   cases hl : longP p
   · rfl
   · exact absurd (.inr (.inr (.inr hl))) hc
theorem xC_zero {x : D} (h : xC x = 0) : (x.cell 0).els.length ≤ 100 ∧ (x.cell 1).els.length ≤ 100 ∧ (x.cell 2).els.length ≤ 100 ∧ payC (x.cell 3).els (x.cell 4).els (x.cell 5).els = 0 := by
 unfold xC at h
 split at h
 · cases h
 · rename_i hc
   split at h
   · exact ⟨by omega, by omega, by omega, h⟩
   · cases h
abbrev nilPay : D := payD true true true [] [] []
theorem or_err_ok (a b : Int) : Cl ty tab 52 [.sl 35 false [.int .i64 a, .int .i64 b]] = some [.int .i64 (firstN [a, b])] := by
 refine s_cmp_Or_52 3 false _ ?_
 unfold cmp_Or_52
 have := iter_ix (R := List D) (F := cmp_Or_52.b0 (Cl ty tab) 3 [.int .i64 a, .int .i64 b]) 2 (fun i => [.int .i64 i]) (fun i => some [.int .i64 (firstN ([a, b].drop i))]) (fun i hi ag ha => ?_) (fun ag => ?_) 3 (by omega) 0 (by omega)
 · exact this
 · unfold cmp_Or_52.b0
   rcases (by omega : i = 0 ∨ i = 1) with rfl | rfl
   · by_cases h : a = 0
     · subst h
       simp only [List.drop_succ_cons, List.drop_zero] at ha
       simp (disch := omega) only [gds, firstN, ne_eq, not_true_eq_false] at ha ⊢
       exact ha
     · simp (disch := omega) only [gds, List.drop_succ_cons, List.drop_zero, firstN, h, ne_eq, not_false_eq_true]
   · by_cases h : b = 0
     · subst h
       simp (disch := omega) only [gds, firstN, ne_eq, not_true_eq_false] at ha ⊢
       exact ha
     · simp (disch := omega) only [gds, List.drop_succ_cons, List.drop_zero, firstN, h, ne_eq, not_false_eq_true]
 · unfold cmp_Or_52.b0
   simp (disch := omega) only [gds, firstN]
   rfl
section
variable (n m t : Bool) (o p q : List D) (x : D) (hp : Pay o p q) (hx : Xg x)
include hp hx
theorem filter_bad (h : firstN [payC o p q, xC x] ≠ 0) : Cl ty tab 19 [payD n m t o p q, x] = some [nilPay, .int .i64 (firstN [payC o p q, xC x])] := by
 have := s_local_Filter 0 n o m p t q x (r := [nilPay, .int .i64 (firstN [payC o p q, xC x])]) ?_
 · have e := hx.eta
   rwa [show D.agg (etaCells ks0 x 0) = x from e] at this
 unfold local_Filter
 have c1 := diffCheck_ok n m t o p q hp
 have c2 := localCheck_ok x hx
 have e : D.agg (etaCells ks0 x 0) = x := hx.eta
 have c3 := or_err_ok (payC o p q) (xC x)
 simp (disch := omega) only [gds, c1, c2, e, c3, h, ne_eq, not_false_eq_true]
theorem filter_good' (h1 : payC o p q = 0) (h2 : xC x = 0) (hn : n = true → o = []) (hm : m = true → p = []) (ht : t = true → q = []) (hN : NnL p) : ∃ n' m' t', (n' = true → o = []) ∧ (m' = true → p = []) ∧ (t' = true → q = []) ∧ Cl ty tab 19 [payD n m t o p q, x] = some [payD n' m' t' (o.filter fun d => !goneO x d) (p.filter fun d => !goneP x d) (q.filter fun d => !goneK x d), .int .i64 0] := by
 obtain ⟨g1, g2, g3, g4⟩ := payC_zero h1
 obtain ⟨f1, f2, f3, f4⟩ := xC_zero h2
 have e : D.agg (etaCells ks0 x 0) = x := hx.eta
 have c1 := diffCheck_ok n m t o p q hp
 have c2 := localCheck_ok x hx
 have c3 := or_err_ok (payC o p q) (xC x)
 have hP : ∀ d, d ∈ p → Pg d ∧ Nn d := fun d hd => ⟨(hp.hp d hd).1, hN d hd, by have := long_len g4 d hd; omega⟩
 have c4 := twin_ok n m t o p q hn ht (by omega) (by omega) (by omega) hP
 obtain ⟨n', z1, k1⟩ := keepO_ok (x.cell 0).nb (x.cell 1).nb (x.cell 2).nb (x.cell 3).nb (x.cell 4).nb (x.cell 5).nb (x.cell 0).els (x.cell 1).els (x.cell 2).els (x.cell 3).els (x.cell 4).els (x.cell 5).els (goneO x) n o (by omega) (fun d hd => (hp.ho d hd).eta)
  (fun d hd => filterO_ok _ _ _ _ _ _ _ _ _ _ _ _ d hx.hf (by omega) (hp.ho d hd)) hn
 obtain ⟨t', z2, k2⟩ := keepK_ok (x.cell 0).nb (x.cell 1).nb (x.cell 2).nb (x.cell 3).nb (x.cell 4).nb (x.cell 5).nb (x.cell 0).els (x.cell 1).els (x.cell 2).els (x.cell 3).els (x.cell 4).els (x.cell 5).els (goneK x) t q (by omega) (fun d hd => (hp.hq d hd).eta)
  (fun d hd => filterK_ok _ _ _ _ _ _ _ _ _ _ _ _ d hx.hy (by omega) (hp.hq d hd)) ht
 obtain ⟨m', z3, k3⟩ := keepP_ok (x.cell 0).nb (x.cell 1).nb (x.cell 2).nb (x.cell 3).nb (x.cell 4).nb (x.cell 5).nb (x.cell 0).els (x.cell 1).els (x.cell 2).els (x.cell 3).els (x.cell 4).els (x.cell 5).els (goneP x) p.isEmpty p (by omega) (fun d hd => (hp.hp d hd).1.eta)
  (fun d hd => filterP_ok _ _ _ _ _ _ _ _ _ _ _ _ d (by omega) (hp.hp d hd).1) (fun h => by simpa using h)
 refine ⟨n', m', t', z1, z3, z2, ?_⟩
 have := s_local_Filter 0 n o m p t q x (r := [payD n' m' t' (o.filter fun d => !goneO x d) (p.filter fun d => !goneP x d) (q.filter fun d => !goneK x d), .int .i64 0]) ?_
 · rwa [e] at this
 unfold local_Filter
 rw [h1, h2] at c3
 simp (disch := omega) only [gds, c1, c2, e, h1, h2, c3, firstN, ne_eq, not_true_eq_false, c4, k1, k2, k3]
theorem filter_good (h1 : payC o p q = 0) (h2 : xC x = 0) (hn : n = true → o = []) (hm : m = true → p = []) (ht : t = true → q = []) (hN : NnL p) : ∃ n' m' t', Cl ty tab 19 [payD n m t o p q, x] = some [payD n' m' t' (o.filter fun d => !goneO x d) (p.filter fun d => !goneP x d) (q.filter fun d => !goneK x d), .int .i64 0] := by
 obtain ⟨n', m', t', _, _, _, h⟩ := filter_good' n m t o p q x hp hx h1 h2 hn hm ht hN
 exact ⟨n', m', t', h⟩
end
end Go.Proofs.YtapfhcnigmighaaGreat.Own
namespace Go.Proofs.YtapfhcnigmighaaGreat.Own
open Go Go.Proofs.YtapfhcnigmighaaGreat.GD
def mrg (c : D → D → Int) (e : D → D → D) : List D → List D → List D
 | [], b => b
 | x :: a, [] => x :: a
 | x :: a, y :: b => if c x y < 0 then x :: mrg c e a (y :: b) else if 0 < c x y then y :: mrg c e (x :: a) b else e x y :: mrg c e a b
termination_by a b => a.length + b.length
theorem tl_eq (x : D) (a : List D) : List.take (a.length + 1 - Int.toNat 1) (List.drop (Int.toNat 1) (x :: a)) = a := by
 rw [show Int.toNat 1 = 1 from rfl]; simp
theorem mrg_cc (c : D → D → Int) (e : D → D → D) (x y : D) (a b : List D) : mrg c e (x :: a) (y :: b) = if c x y < 0 then x :: mrg c e a (y :: b) else if 0 < c x y then y :: mrg c e (x :: a) b else e x y :: mrg c e a b := by
 rw [mrg]
theorem toNat_succ (n : Nat) : ((n : Int) + 1).toNat = n + 1 := by omega
theorem merge_loop {F : List D → (List D → Option (List D)) → Option (List D)} (c : D → D → Int) (e : D → D → D) (te : TypeId) (n1 n2 : Bool) (a0 b0 : List D) (ha : a0.length ≤ 60000) (hb : b0.length ≤ 60000)
  (h0 : ∀ b o ag, b.length + o.length ≤ 120000 → F [.sl te n1 [], .sl te n2 b, .ov te false o] ag = some [.ov te false (o ++ b)])
  (h1 : ∀ x a o ag, a.length + 1 + o.length ≤ 120000 → F [.sl te n1 (x :: a), .sl te n2 [], .ov te false o] ag = some [.ov te false (o ++ x :: a)])
  (h2 : ∀ x a y b o ag, x ∈ a0 → y ∈ b0 → a.length + 1 + (b.length + 1) + o.length ≤ 120000 → F [.sl te n1 (x :: a), .sl te n2 (y :: b), .ov te false o] ag =
   if c x y < 0 then ag [.sl te n1 a, .sl te n2 (y :: b), .ov te false (o ++ [x])] else if 0 < c x y then ag [.sl te n1 (x :: a), .sl te n2 b, .ov te false (o ++ [y])] else ag [.sl te n1 a, .sl te n2 b, .ov te false (o ++ [e x y])]) :
  iter 120001 F [.sl te n1 a0, .sl te n2 b0, .ov te false []] = some [.ov te false (mrg c e a0 b0)] := by
 refine iter_wf (R := List D) (F := F) (fun s : List D × List D × List D => [.sl te n1 s.1, .sl te n2 s.2.1, .ov te false s.2.2]) (fun _ => some [.ov te false (mrg c e a0 b0)]) (fun s => s.1.length + s.2.1.length)
  (fun s => s.2.2 ++ mrg c e s.1 s.2.1 = mrg c e a0 b0 ∧ (∀ d, d ∈ s.1 → d ∈ a0) ∧ (∀ d, d ∈ s.2.1 → d ∈ b0) ∧ s.1.length + s.2.1.length + s.2.2.length ≤ 120000) (fun s hs ag ih => ?_) 120001 (a0, b0, []) ⟨rfl, fun d h => h, fun d h => h, by simp; omega⟩ (by dsimp only; omega)
 obtain ⟨a, b, o⟩ := s
 obtain ⟨g1, g2, g3, g4⟩ := hs
 dsimp only at g1 g2 g3 g4 ih ⊢
 cases a with
 | nil =>
  rw [h0 _ _ _ (by simpa using g4), ← g1]
  unfold mrg; rfl
 | cons x a =>
  cases b with
  | nil =>
   rw [h1 _ _ _ _ (by simpa using g4), ← g1]
   unfold mrg; rfl
  | cons y b =>
   rw [h2 x a y b o ag (g2 x (List.mem_cons_self ..)) (g3 y (List.mem_cons_self ..)) (by simpa using g4)]
   rw [mrg_cc] at g1
   simp only [List.length_cons] at g4
   have ta : ∀ d, d ∈ a → d ∈ a0 := fun d hd => g2 d (List.mem_cons_of_mem _ hd)
   have tb : ∀ d, d ∈ b → d ∈ b0 := fun d hd => g3 d (List.mem_cons_of_mem _ hd)
   split
   · rename_i c1
     rw [if_pos c1] at g1
     exact ih (a, y :: b, o ++ [x]) ⟨by dsimp only; rw [List.append_assoc]; exact g1, ta, g3, by simp; omega⟩ (by simp only [List.length_cons]; omega)
   · rename_i c1
     rw [if_neg c1] at g1
     split
     · rename_i c2
       rw [if_pos c2] at g1
       exact ih (x :: a, b, o ++ [y]) ⟨by dsimp only; rw [List.append_assoc]; exact g1, g2, tb, by simp; omega⟩ (by simp only [List.length_cons]; omega)
     · rename_i c2
       rw [if_neg c2] at g1
       exact ih (a, b, o ++ [e x y]) ⟨by dsimp only; rw [List.append_assoc]; exact g1, ta, tb, by simp; omega⟩ (by simp only [List.length_cons]; omega)
theorem mergeO_ok (c : D → D → Int) (e : D → D → D) (n1 n2 : Bool) (a0 b0 : List D) (hE : ∀ d, d ∈ a0 ∨ d ∈ b0 → D.agg (etaCells ks1 d 0) = d) (hE2 : ∀ x y, x ∈ a0 → y ∈ b0 → D.agg (etaCells ks1 (e x y) 0) = e x y)
  (hc : ∀ x y, x ∈ a0 → y ∈ b0 → Cl ty tab 97 [x, y] = some [.int .i64 (c x y)]) (he : ∀ x y, x ∈ a0 → y ∈ b0 → Cl ty tab 101 [x, y] = some [e x y]) (ha : a0.length ≤ 60000) (hb : b0.length ≤ 60000) :
  Cl ty tab 100 [.agg [.fn 97 [], .nilfn], .sl 58 n1 a0, .sl 58 n2 b0, .fn 101 []] = some [.ov 58 false (mrg c e a0 b0)] := by
 refine s_api_Origin_merge 120001 n1 a0 n2 b0 ?_
 unfold api_Origin_merge
 have := merge_loop (F := api_Origin_merge.b0 (Cl ty tab) 120001) c e 58 n1 n2 a0 b0 ha hb (fun b o ag hl => ?_) (fun x a o ag hl => ?_) (fun x a y b o ag mx my hl => ?_)
 · simp (disch := omega) only [gds, List.replicate, Int.toNat_zero, Int.natCast_add]
   exact this
 · unfold api_Origin_merge.b0
   simp (disch := omega) only [gds, List.append_nil, List.isEmpty_nil, List.length_nil]
 · unfold api_Origin_merge.b0
   simp (disch := omega) only [gds, List.append_nil, List.isEmpty_nil, List.isEmpty_cons, List.length_nil, List.length_cons, List.length_append]
 · unfold api_Origin_merge.b0
   have ex := hE x (.inl mx)
   have ey := hE y (.inr my)
   have exy := hE2 x y mx my
   have hcc := hc x y mx my
   have hee := he x y mx my
   clear hc he hE hE2
   by_cases c1 : c x y < 0
   · simp (disch := omega) only [gds, ex, ey, hcc, c1, List.length_cons, List.getD_cons_zero, tl_eq, toNat_succ, List.length_nil, List.length_append]
   · by_cases c2 : 0 < c x y
     · simp (disch := omega) only [gds, ex, ey, hcc, c1, c2, List.length_cons, List.getD_cons_zero, tl_eq, toNat_succ, List.length_nil, List.length_append]
     · simp (disch := omega) only [gds, ex, ey, exy, hcc, hee, c1, c2, List.length_cons, List.getD_cons_zero, tl_eq, toNat_succ, List.length_nil, List.length_append]
theorem mergeK_ok (c : D → D → Int) (e : D → D → D) (n1 n2 : Bool) (a0 b0 : List D) (hE : ∀ d, d ∈ a0 ∨ d ∈ b0 → D.agg (kKsE d 0) = d) (hE2 : ∀ x y, x ∈ a0 → y ∈ b0 → D.agg (kKsE (e x y) 0) = e x y)
  (hc : ∀ x y, x ∈ a0 → y ∈ b0 → Cl ty tab 99 [x, y] = some [.int .i64 (c x y)]) (he : ∀ x y, x ∈ a0 → y ∈ b0 → Cl ty tab 105 [x, y] = some [e x y]) (ha : a0.length ≤ 60000) (hb : b0.length ≤ 60000) :
  Cl ty tab 104 [.agg [.fn 99 [], .nilfn], .sl 64 n1 a0, .sl 64 n2 b0, .fn 105 []] = some [.ov 64 false (mrg c e a0 b0)] := by
 refine s_api_RouterKey_merge 120001 n1 a0 n2 b0 ?_
 unfold api_RouterKey_merge
 have := merge_loop (F := api_RouterKey_merge.b0 (Cl ty tab) 120001) c e 64 n1 n2 a0 b0 ha hb (fun b o ag hl => ?_) (fun x a o ag hl => ?_) (fun x a y b o ag mx my hl => ?_)
 · simp (disch := omega) only [gds, List.replicate, Int.toNat_zero, Int.natCast_add]
   exact this
 · unfold api_RouterKey_merge.b0
   simp (disch := omega) only [gds, List.append_nil, List.isEmpty_nil, List.length_nil]
 · unfold api_RouterKey_merge.b0
   simp (disch := omega) only [gds, List.append_nil, List.isEmpty_nil, List.isEmpty_cons, List.length_nil, List.length_cons, List.length_append]
 · unfold api_RouterKey_merge.b0
   have ex := hE x (.inl mx)
   have ey := hE y (.inr my)
   have exy := hE2 x y mx my
   have hcc := hc x y mx my
   have hee := he x y mx my
   clear hc he hE hE2
   by_cases c1 : c x y < 0
   · simp (disch := omega) only [gds, ex, ey, hcc, c1, List.length_cons, List.getD_cons_zero, tl_eq, toNat_succ, List.length_nil, List.length_append]
   · by_cases c2 : 0 < c x y
     · simp (disch := omega) only [gds, ex, ey, hcc, c1, c2, List.length_cons, List.getD_cons_zero, tl_eq, toNat_succ, List.length_nil, List.length_append]
     · simp (disch := omega) only [gds, ex, ey, exy, hcc, hee, c1, c2, List.length_cons, List.getD_cons_zero, tl_eq, toNat_succ, List.length_nil, List.length_append]
theorem mergeP_ok (c : D → D → Int) (e : D → D → D) (n1 n2 : Bool) (a0 b0 : List D) (hE : ∀ d, d ∈ a0 ∨ d ∈ b0 → D.agg [(D.int .u32 ((d.cell 0).i)), (D.sl 51 (d.cell 1).nb (d.cell 1).els)] = d) (hE2 : ∀ x y, x ∈ a0 → y ∈ b0 → D.agg [(D.int .u32 (((e x y).cell 0).i)), (D.sl 51 ((e x y).cell 1).nb ((e x y).cell 1).els)] = e x y)
  (hc : ∀ x y, x ∈ a0 → y ∈ b0 → Cl ty tab 98 [x, y] = some [.int .i64 (c x y)]) (he : ∀ x y, x ∈ a0 → y ∈ b0 → Cl ty tab 103 [x, y] = some [e x y]) (ha : a0.length ≤ 60000) (hb : b0.length ≤ 60000) :
  Cl ty tab 102 [.agg [.fn 98 [], .nilfn], .sl 84 n1 a0, .sl 84 n2 b0, .fn 103 []] = some [.ov 84 false (mrg c e a0 b0)] := by
 refine s_api_Attest_merge 120001 n1 a0 n2 b0 ?_
 unfold api_Attest_merge
 have := merge_loop (F := api_Attest_merge.b0 (Cl ty tab) 120001) c e 84 n1 n2 a0 b0 ha hb (fun b o ag hl => ?_) (fun x a o ag hl => ?_) (fun x a y b o ag mx my hl => ?_)
 · simp (disch := omega) only [gds, List.replicate, Int.toNat_zero, Int.natCast_add]
   exact this
 · unfold api_Attest_merge.b0
   simp (disch := omega) only [gds, List.append_nil, List.isEmpty_nil, List.length_nil]
 · unfold api_Attest_merge.b0
   simp (disch := omega) only [gds, List.append_nil, List.isEmpty_nil, List.isEmpty_cons, List.length_nil, List.length_cons, List.length_append]
 · unfold api_Attest_merge.b0
   have ex := hE x (.inl mx)
   have ey := hE y (.inr my)
   have exy := hE2 x y mx my
   have hcc := hc x y mx my
   have hee := he x y mx my
   clear hc he hE hE2
   by_cases c1 : c x y < 0
   · simp (disch := omega) only [gds, ex, ey, hcc, c1, List.length_cons, List.getD_cons_zero, tl_eq, toNat_succ, List.length_nil, List.length_append]
   · by_cases c2 : 0 < c x y
     · simp (disch := omega) only [gds, ex, ey, hcc, c1, c2, List.length_cons, List.getD_cons_zero, tl_eq, toNat_succ, List.length_nil, List.length_append]
     · simp (disch := omega) only [gds, ex, ey, exy, hcc, hee, c1, c2, List.length_cons, List.getD_cons_zero, tl_eq, toNat_succ, List.length_nil, List.length_append]
end Go.Proofs.YtapfhcnigmighaaGreat.Own
namespace Go.Proofs.YtapfhcnigmighaaGreat.Own
open Go Go.Proofs.YtapfhcnigmighaaGreat.GD
theorem mergeF_ok (c : D → D → Int) (e : D → D → D) (n1 n2 : Bool) (a0 b0 : List D) (hE : ∀ d, d ∈ a0 ∨ d ∈ b0 → D.agg (etaCells ks3 d 0) = d) (hE2 : ∀ x y, x ∈ a0 → y ∈ b0 → D.agg (etaCells ks3 (e x y) 0) = e x y)
  (hc : ∀ x y, x ∈ a0 → y ∈ b0 → Cl ty tab 86 [x, y] = some [.int .i64 (c x y)]) (he : ∀ x y, x ∈ a0 → y ∈ b0 → Cl ty tab 38 [x, y] = some [e x y]) (ha : a0.length ≤ 60000) (hb : b0.length ≤ 60000) :
  Cl ty tab 37 [.agg [.fn 86 [], .fn 91 []], .sl 70 n1 a0, .sl 70 n2 b0, .fn 38 []] = some [.ov 70 false (mrg c e a0 b0)] := by
 refine s_api_LocalPrefix_merge 120001 n1 a0 n2 b0 ?_
 unfold api_LocalPrefix_merge
 have := merge_loop (F := api_LocalPrefix_merge.b0 (Cl ty tab) 120001) c e 70 n1 n2 a0 b0 ha hb (fun b o ag hl => ?_) (fun x a o ag hl => ?_) (fun x a y b o ag mx my hl => ?_)
 · simp (disch := omega) only [gds, List.replicate, Int.toNat_zero, Int.natCast_add]
   exact this
 · unfold api_LocalPrefix_merge.b0
   simp (disch := omega) only [gds, List.append_nil, List.isEmpty_nil, List.length_nil]
 · unfold api_LocalPrefix_merge.b0
   simp (disch := omega) only [gds, List.append_nil, List.isEmpty_nil, List.isEmpty_cons, List.length_nil, List.length_cons, List.length_append]
 · unfold api_LocalPrefix_merge.b0
   have ex := hE x (.inl mx)
   have ey := hE y (.inr my)
   have exy := hE2 x y mx my
   have hcc := hc x y mx my
   have hee := he x y mx my
   clear hc he hE hE2
   by_cases c1 : c x y < 0
   · simp (disch := omega) only [gds, ex, ey, hcc, c1, List.length_cons, List.getD_cons_zero, tl_eq, toNat_succ, List.length_nil, List.length_append]
   · by_cases c2 : 0 < c x y
     · simp (disch := omega) only [gds, ex, ey, hcc, c1, c2, List.length_cons, List.getD_cons_zero, tl_eq, toNat_succ, List.length_nil, List.length_append]
     · simp (disch := omega) only [gds, ex, ey, exy, hcc, hee, c1, c2, List.length_cons, List.getD_cons_zero, tl_eq, toNat_succ, List.length_nil, List.length_append]
theorem mergeY_ok (c : D → D → Int) (e : D → D → D) (n1 n2 : Bool) (a0 b0 : List D) (hE : ∀ d, d ∈ a0 ∨ d ∈ b0 → D.agg (yKsE d 0) = d) (hE2 : ∀ x y, x ∈ a0 → y ∈ b0 → D.agg (yKsE (e x y) 0) = e x y)
  (hc : ∀ x y, x ∈ a0 → y ∈ b0 → Cl ty tab 92 [x, y] = some [.int .i64 (c x y)]) (he : ∀ x y, x ∈ a0 → y ∈ b0 → Cl ty tab 41 [x, y] = some [e x y]) (ha : a0.length ≤ 60000) (hb : b0.length ≤ 60000) :
  Cl ty tab 40 [.agg [.fn 92 [], .fn 95 []], .sl 73 n1 a0, .sl 73 n2 b0, .fn 41 []] = some [.ov 73 false (mrg c e a0 b0)] := by
 refine s_api_LocalKey_merge 120001 n1 a0 n2 b0 ?_
 unfold api_LocalKey_merge
 have := merge_loop (F := api_LocalKey_merge.b0 (Cl ty tab) 120001) c e 73 n1 n2 a0 b0 ha hb (fun b o ag hl => ?_) (fun x a o ag hl => ?_) (fun x a y b o ag mx my hl => ?_)
 · simp (disch := omega) only [gds, List.replicate, Int.toNat_zero, Int.natCast_add]
   exact this
 · unfold api_LocalKey_merge.b0
   simp (disch := omega) only [gds, List.append_nil, List.isEmpty_nil, List.length_nil]
 · unfold api_LocalKey_merge.b0
   simp (disch := omega) only [gds, List.append_nil, List.isEmpty_nil, List.isEmpty_cons, List.length_nil, List.length_cons, List.length_append]
 · unfold api_LocalKey_merge.b0
   have ex := hE x (.inl mx)
   have ey := hE y (.inr my)
   have exy := hE2 x y mx my
   have hcc := hc x y mx my
   have hee := he x y mx my
   clear hc he hE hE2
   by_cases c1 : c x y < 0
   · simp (disch := omega) only [gds, ex, ey, hcc, c1, List.length_cons, List.getD_cons_zero, tl_eq, toNat_succ, List.length_nil, List.length_append]
   · by_cases c2 : 0 < c x y
     · simp (disch := omega) only [gds, ex, ey, hcc, c1, c2, List.length_cons, List.getD_cons_zero, tl_eq, toNat_succ, List.length_nil, List.length_append]
     · simp (disch := omega) only [gds, ex, ey, exy, hcc, hee, c1, c2, List.length_cons, List.getD_cons_zero, tl_eq, toNat_succ, List.length_nil, List.length_append]
theorem mergeC_ok (c : D → D → Int) (e : D → D → D) (n1 n2 : Bool) (a0 b0 : List D) (hE : ∀ d, d ∈ a0 ∨ d ∈ b0 → D.int .u32 (d.cell 0).i = d) (hE2 : ∀ x y, x ∈ a0 → y ∈ b0 → D.int .u32 ((e x y).cell 0).i = e x y)
  (hc : ∀ x y, x ∈ a0 → y ∈ b0 → Cl ty tab 90 [x, y] = some [.int .i64 (c x y)]) (he : ∀ x y, x ∈ a0 → y ∈ b0 → Cl ty tab 44 [x, y] = some [e x y]) (ha : a0.length ≤ 60000) (hb : b0.length ≤ 60000) :
  Cl ty tab 43 [.agg [.fn 90 [], .fn 96 []], .sl 51 n1 a0, .sl 51 n2 b0, .fn 44 []] = some [.ov 51 false (mrg c e a0 b0)] := by
 refine s_local_order_uint32_merge 120001 n1 a0 n2 b0 ?_
 unfold local_order_uint32_merge
 have := merge_loop (F := local_order_uint32_merge.b0 (Cl ty tab) 120001) c e 51 n1 n2 a0 b0 ha hb (fun b o ag hl => ?_) (fun x a o ag hl => ?_) (fun x a y b o ag mx my hl => ?_)
 · simp (disch := omega) only [gds, List.replicate, Int.toNat_zero, Int.natCast_add]
   exact this
 · unfold local_order_uint32_merge.b0
   simp (disch := omega) only [gds, List.append_nil, List.isEmpty_nil, List.length_nil]
 · unfold local_order_uint32_merge.b0
   simp (disch := omega) only [gds, List.append_nil, List.isEmpty_nil, List.isEmpty_cons, List.length_nil, List.length_cons, List.length_append]
 · unfold local_order_uint32_merge.b0
   have ex := hE x (.inl mx)
   have ey := hE y (.inr my)
   have exy := hE2 x y mx my
   have hcc := hc x y mx my
   have hee := he x y mx my
   clear hc he hE hE2
   by_cases c1 : c x y < 0
   · simp (disch := omega) only [gds, ex, ey, hcc, c1, List.length_cons, List.getD_cons_zero, tl_eq, toNat_succ, List.length_nil, List.length_append]
   · by_cases c2 : 0 < c x y
     · simp (disch := omega) only [gds, ex, ey, hcc, c1, c2, List.length_cons, List.getD_cons_zero, tl_eq, toNat_succ, List.length_nil, List.length_append]
     · simp (disch := omega) only [gds, ex, ey, exy, hcc, hee, c1, c2, List.length_cons, List.getD_cons_zero, tl_eq, toNat_succ, List.length_nil, List.length_append]
end Go.Proofs.YtapfhcnigmighaaGreat.Own
namespace Go.Proofs.YtapfhcnigmighaaGreat.Own
open Go Go.Proofs.YtapfhcnigmighaaGreat.GD
theorem cmpL_neg : ∀ (a b : List Int), cmpL b a = - cmpL a b
 | [], [] => rfl
 | [], _ :: _ => rfl
 | _ :: _, [] => rfl
 | x :: a, y :: b => by
  simp only [cmpL]
  have := cmpL_neg a b
  split <;> split <;> first | omega | (split <;> first | omega | exact this) | rfl
theorem cmpL_trans : ∀ {a b c : List Int}, a.length = b.length → b.length = c.length → cmpL a b < 0 → cmpL b c < 0 → cmpL a c < 0
 | [], [], [], _, _, h, _ => h
 | x :: a, y :: b, z :: c, h1, h2, h3, h4 => by
  simp only [List.length_cons, Nat.add_right_cancel_iff] at h1 h2
  simp only [cmpL] at h3 h4 ⊢
  split at h3
  · split at h4
    · rw [if_pos (by omega)]; omega
    · split at h4
      · omega
      · rw [if_pos (by omega)]; omega
  · split at h3
    · omega
    · split at h4
      · rw [if_pos (by omega)]; omega
      · split at h4
        · omega
        · rw [if_neg (by omega), if_neg (by omega)]
          exact cmpL_trans h1 h2 h3 h4
section
variable (key : D → List Int) (n : Nat) (hk : ∀ d, (key d).length = n)
abbrev Srt (l : List D) : Prop := l.Pairwise fun a b => cmpL (key a) (key b) < 0
abbrev byK (a b : D) : Int := cmpL (key a) (key b)
include hk
theorem key_zero {a b : D} : cmpL (key a) (key b) = 0 ↔ key a = key b := cmpL_zero (by rw [hk, hk])
theorem key_irr (a : D) : ¬ cmpL (key a) (key a) < 0 := by rw [(key_zero key n hk).2 rfl]; omega
theorem srt_ext : ∀ {l m : List D}, Srt key l → Srt key m → (∀ d, d ∈ l ↔ d ∈ m) → l = m
 | [], [], _, _, _ => rfl
 | [], y :: m, _, _, h => by have := (h y).2 (List.mem_cons_self ..); cases this
 | x :: l, [], _, _, h => by have := (h x).1 (List.mem_cons_self ..); cases this
 | x :: l, y :: m, hl, hm, h => by
  obtain ⟨l1, l2⟩ := List.pairwise_cons.1 hl
  obtain ⟨m1, m2⟩ := List.pairwise_cons.1 hm
  have e : x = y := by
   rcases List.mem_cons.1 ((h x).1 (List.mem_cons_self ..)) with e | h1
   · exact e
   · rcases List.mem_cons.1 ((h y).2 (List.mem_cons_self ..)) with e | h2
     · exact e.symm
     · have a1 := m1 x h1
       have a2 := l1 y h2
       rw [cmpL_neg] at a2
       omega
  subst e
  rw [srt_ext l2 m2 fun d => ?_]
  constructor
  · intro hd
    rcases List.mem_cons.1 ((h d).1 (List.mem_cons_of_mem _ hd)) with e | h1
    · subst e; exact absurd (l1 d hd) (key_irr key n hk d)
    · exact h1
  · intro hd
    rcases List.mem_cons.1 ((h d).2 (List.mem_cons_of_mem _ hd)) with e | h1
    · subst e; exact absurd (m1 d hd) (key_irr key n hk d)
    · exact h1
section
variable (e : D → D → D) (he : ∀ x y, key x = key y → key (e x y) = key x)
include he
theorem mrg_spec : ∀ (n' : Nat) (a b : List D), a.length + b.length ≤ n' → Srt key a → Srt key b →
  Srt key (mrg (byK key) e a b) ∧ ∀ d, d ∈ mrg (byK key) e a b ↔ (d ∈ a ∧ ∀ y, y ∈ b → key y ≠ key d) ∨ (d ∈ b ∧ ∀ x, x ∈ a → key x ≠ key d) ∨ ∃ x, x ∈ a ∧ ∃ y, y ∈ b ∧ key x = key y ∧ d = e x y
 | n', [], b, _, _, hb => by rw [mrg]; exact ⟨hb, fun d => by simp⟩
 | n', x :: a, [], _, ha, _ => by rw [mrg]; exact ⟨ha, fun d => by simp⟩
 | 0, x :: a, y :: b, h, _, _ => by simp at h
 | n' + 1, x :: a, y :: b, h, ha, hb => by
  obtain ⟨a1, a2⟩ := List.pairwise_cons.1 ha
  obtain ⟨b1, b2⟩ := List.pairwise_cons.1 hb
  simp only [List.length_cons] at h
  rw [mrg_cc]
  have tr : ∀ {u v w : D}, cmpL (key u) (key v) < 0 → cmpL (key v) (key w) < 0 → cmpL (key u) (key w) < 0 := fun h1 h2 => cmpL_trans (by rw [hk, hk]) (by rw [hk, hk]) h1 h2
  have ne : ∀ {u v : D}, cmpL (key u) (key v) < 0 → key u ≠ key v := fun h1 h2 => by have := (key_zero key n hk).2 h2; omega
  by_cases c1 : cmpL (key x) (key y) < 0
  · rw [if_pos c1]
    obtain ⟨s1, s2⟩ := mrg_spec n' a (y :: b) (by simp; omega) a2 hb
    have xb : ∀ z, z ∈ y :: b → cmpL (key x) (key z) < 0 := fun z hz => by
     rcases List.mem_cons.1 hz with e' | hz
     · subst e'; exact c1
     · exact tr c1 (b1 z hz)
    refine ⟨List.pairwise_cons.2 ⟨fun d hd => ?_, s1⟩, fun d => ?_⟩
    · rcases (s2 d).1 hd with ⟨h1, _⟩ | ⟨h1, _⟩ | ⟨u, hu, v, hv, huv, rfl⟩
      · exact a1 d h1
      · exact xb d h1
      · rw [he u v huv]; exact a1 u hu
    · rw [List.mem_cons, s2]
      constructor
      · rintro (e' | ⟨h1, h2⟩ | ⟨h1, h2⟩ | ⟨u, hu, v, hv, huv⟩)
        · subst e'; exact .inl ⟨List.mem_cons_self .., fun z hz => (ne (xb z hz)).symm⟩
        · exact .inl ⟨List.mem_cons_of_mem _ h1, h2⟩
        · refine .inr (.inl ⟨h1, fun z hz => ?_⟩)
          rcases List.mem_cons.1 hz with e' | hz
          · subst e'; exact ne (xb d h1)
          · exact h2 z hz
        · exact .inr (.inr ⟨u, List.mem_cons_of_mem _ hu, v, hv, huv⟩)
      · rintro (⟨h1, h2⟩ | ⟨h1, h2⟩ | ⟨u, hu, v, hv, huv⟩)
        · rcases List.mem_cons.1 h1 with e' | h1
          · exact .inl e'
          · exact .inr (.inl ⟨h1, h2⟩)
        · exact .inr (.inr (.inl ⟨h1, fun z hz => h2 z (List.mem_cons_of_mem _ hz)⟩))
        · rcases List.mem_cons.1 hu with e' | hu
          · subst e'; exact absurd huv.1 (ne (xb v hv))
          · exact .inr (.inr (.inr ⟨u, hu, v, hv, huv⟩))
  · rw [if_neg c1]
    by_cases c2 : 0 < cmpL (key x) (key y)
    · rw [if_pos c2]
      have c3 : cmpL (key y) (key x) < 0 := by rw [cmpL_neg]; omega
      obtain ⟨s1, s2⟩ := mrg_spec n' (x :: a) b (by simp; omega) ha b2
      have ya : ∀ z, z ∈ x :: a → cmpL (key y) (key z) < 0 := fun z hz => by
       rcases List.mem_cons.1 hz with e' | hz
       · subst e'; exact c3
       · exact tr c3 (a1 z hz)
      refine ⟨List.pairwise_cons.2 ⟨fun d hd => ?_, s1⟩, fun d => ?_⟩
      · rcases (s2 d).1 hd with ⟨h1, _⟩ | ⟨h1, _⟩ | ⟨u, hu, v, hv, huv, rfl⟩
        · exact ya d h1
        · exact b1 d h1
        · rw [he u v huv]; exact ya u hu
      · rw [List.mem_cons, s2]
        constructor
        · rintro (e' | ⟨h1, h2⟩ | ⟨h1, h2⟩ | ⟨u, hu, v, hv, huv⟩)
          · subst e'; exact .inr (.inl ⟨List.mem_cons_self .., fun z hz => (ne (ya z hz)).symm⟩)
          · refine .inl ⟨h1, fun z hz => ?_⟩
            rcases List.mem_cons.1 hz with e' | hz
            · subst e'; exact ne (ya d h1)
            · exact h2 z hz
          · exact .inr (.inl ⟨List.mem_cons_of_mem _ h1, h2⟩)
          · exact .inr (.inr ⟨u, hu, v, List.mem_cons_of_mem _ hv, huv⟩)
        · rintro (⟨h1, h2⟩ | ⟨h1, h2⟩ | ⟨u, hu, v, hv, huv⟩)
          · exact .inr (.inl ⟨h1, fun z hz => h2 z (List.mem_cons_of_mem _ hz)⟩)
          · rcases List.mem_cons.1 h1 with e' | h1
            · exact .inl e'
            · exact .inr (.inr (.inl ⟨h1, h2⟩))
          · rcases List.mem_cons.1 hv with e' | hv
            · subst e'; exact absurd huv.1.symm (ne (ya u hu))
            · exact .inr (.inr (.inr ⟨u, hu, v, hv, huv⟩))
    · rw [if_neg c2]
      have ek : key x = key y := (key_zero key n hk).1 (by omega)
      obtain ⟨s1, s2⟩ := mrg_spec n' a b (by omega) a2 b2
      have xa : ∀ z, z ∈ a → cmpL (key x) (key z) < 0 := a1
      have xb : ∀ z, z ∈ b → cmpL (key x) (key z) < 0 := fun z hz => by rw [ek]; exact b1 z hz
      have ke := he x y ek
      refine ⟨List.pairwise_cons.2 ⟨fun d hd => ?_, s1⟩, fun d => ?_⟩
      · rw [ke]
        rcases (s2 d).1 hd with ⟨h1, _⟩ | ⟨h1, _⟩ | ⟨u, hu, v, hv, huv, rfl⟩
        · exact xa d h1
        · exact xb d h1
        · rw [he u v huv]; exact xa u hu
      · rw [List.mem_cons, s2]
        constructor
        · rintro (e' | ⟨h1, h2⟩ | ⟨h1, h2⟩ | ⟨u, hu, v, hv, huv⟩)
          · exact .inr (.inr ⟨x, List.mem_cons_self .., y, List.mem_cons_self .., ek, e'⟩)
          · refine .inl ⟨List.mem_cons_of_mem _ h1, fun z hz => ?_⟩
            rcases List.mem_cons.1 hz with e' | hz
            · subst e'; rw [← ek]; exact ne (xa d h1)
            · exact h2 z hz
          · refine .inr (.inl ⟨List.mem_cons_of_mem _ h1, fun z hz => ?_⟩)
            rcases List.mem_cons.1 hz with e' | hz
            · subst e'; exact ne (xb d h1)
            · exact h2 z hz
          · exact .inr (.inr ⟨u, List.mem_cons_of_mem _ hu, v, List.mem_cons_of_mem _ hv, huv⟩)
        · rintro (⟨h1, h2⟩ | ⟨h1, h2⟩ | ⟨u, hu, v, hv, huv⟩)
          · rcases List.mem_cons.1 h1 with e' | h1
            · subst e'; exact absurd ek.symm (h2 y (List.mem_cons_self ..))
            · exact .inr (.inl ⟨h1, fun z hz => h2 z (List.mem_cons_of_mem _ hz)⟩)
          · rcases List.mem_cons.1 h1 with e' | h1
            · subst e'; exact absurd ek (h2 x (List.mem_cons_self ..))
            · exact .inr (.inr (.inl ⟨h1, fun z hz => h2 z (List.mem_cons_of_mem _ hz)⟩))
          · rcases List.mem_cons.1 hu with e1 | hu
            · rcases List.mem_cons.1 hv with e2 | hv
              · subst e1; subst e2; exact .inl huv.2
              · subst e1; exact absurd huv.1 (ne (xb v hv))
            · rcases List.mem_cons.1 hv with e2 | hv
              · subst e2; exact absurd (huv.1.trans ek.symm).symm (ne (xa u hu))
              · exact .inr (.inr (.inr ⟨u, hu, v, hv, huv⟩))
end
theorem mrg_set {a b : List D} (ha : Srt key a) (hb : Srt key b) (hi : ∀ x y, x ∈ a → y ∈ b → key x = key y → x = y) :
  Srt key (mrg (byK key) (fun x _ => x) a b) ∧ ∀ d, d ∈ mrg (byK key) (fun x _ => x) a b ↔ d ∈ a ∨ d ∈ b := by
 obtain ⟨s1, s2⟩ := mrg_spec key n hk (fun x _ => x) (fun _ _ _ => rfl) _ a b (Nat.le_refl _) ha hb
 refine ⟨s1, fun d => (s2 d).trans ⟨?_, ?_⟩⟩
 · rintro (⟨h, _⟩ | ⟨h, _⟩ | ⟨x, hx, y, hy, _, rfl⟩)
   · exact .inl h
   · exact .inr h
   · exact .inl hx
 · rintro (h | h)
   · by_cases c : ∃ y, y ∈ b ∧ key y = key d
     · obtain ⟨y, hy, e⟩ := c
       exact .inr (.inr ⟨d, h, y, hy, e.symm, rfl⟩)
     · exact .inl ⟨h, fun y hy e => c ⟨y, hy, e⟩⟩
   · by_cases c : ∃ x, x ∈ a ∧ key x = key d
     · obtain ⟨x, hx, e⟩ := c
       exact .inr (.inr ⟨x, hx, d, h, e, (hi x d hx h e).symm⟩)
     · exact .inr (.inl ⟨h, fun x hx e => c ⟨x, hx, e⟩⟩)
theorem ris_srt {g : D → Bool} {lt : D → D → Bool} (hl : ∀ a b, lt a b = decide (cmpL (key a) (key b) < 0)) : ∀ (l : List D), risF g lt l = true ↔ (∀ d, d ∈ l → g d = true) ∧ Srt key l := by
 have tr : ∀ {u v w : D}, cmpL (key u) (key v) < 0 → cmpL (key v) (key w) < 0 → cmpL (key u) (key w) < 0 := fun h1 h2 => cmpL_trans (by rw [hk, hk]) (by rw [hk, hk]) h1 h2
 have G : ∀ (l : List D) (p : D), risG g lt p l = true ↔ (∀ d, d ∈ l → g d = true ∧ cmpL (key p) (key d) < 0) ∧ Srt key l := by
  intro l
  induction l with
  | nil => intro p; simp [risG, Srt]
  | cons x t ih =>
   intro p
   simp only [risG, zq3, hl, decide_eq_true_eq, ih, Srt, List.pairwise_cons, List.mem_cons, forall_eq_or_imp]
   constructor
   · rintro ⟨h1, h2, h3, h4⟩
     exact ⟨⟨⟨h1, h2⟩, fun d hd => ⟨(h3 d hd).1, tr h2 (h3 d hd).2⟩⟩, fun d hd => (h3 d hd).2, h4⟩
   · rintro ⟨⟨⟨h1, h2⟩, h3⟩, h4, h5⟩
     exact ⟨h1, h2, fun d hd => ⟨(h3 d hd).1, h4 d hd⟩, h5⟩
 intro l
 cases l with
 | nil => simp [risF, Srt]
 | cons x t =>
  simp only [risF, zq3, G, Srt, List.pairwise_cons, List.mem_cons, forall_eq_or_imp]
  exact ⟨fun ⟨h1, h2, h3⟩ => ⟨⟨h1, fun d hd => (h2 d hd).1⟩, fun d hd => (h2 d hd).2, h3⟩, fun ⟨⟨h1, h2⟩, h3, h4⟩ => ⟨h1, fun d hd => ⟨h2 d hd, h3 d hd⟩, h4⟩⟩
end
def keyO (d : D) : List Int := oNums d
def keyK (d : D) : List Int := (d.cell 0).i :: (rootN d 1 ++ [(d.cell 17).i])
def keyP (d : D) : List Int := [custP d]
def keyC (d : D) : List Int := [(d.cell 0).i]
theorem keyO_len (d : D) : (keyO d).length = 6 := rfl
theorem keyK_len (d : D) : (keyK d).length = 18 := by simp [keyK, rootN_len]
theorem keyP_len (d : D) : (keyP d).length = 1 := rfl
theorem keyC_len (d : D) : (keyC d).length = 1 := rfl
theorem keyF_len (d : D) : (numsF d).length = 7 := rfl
theorem keyY_len (d : D) : (numsY d).length = 20 := by simp [numsY, rootN_len]
theorem ordP_key : ordP = byK keyP := by funext a b; exact (cmpL_single _ _).symm
theorem ordC_key : ordC = byK keyC := by funext a b; exact (cmpL_single _ _).symm
theorem keyO_inj {a b : D} (ha : Og a) (hb : Og b) (h : keyO a = keyO b) : a = b := by
 simp only [keyO, oNums, List.cons.injEq] at h
 obtain ⟨h0, h1, h2, h3, h4, h5, _⟩ := h
 rw [← ha.eta, ← hb.eta]
 show D.agg [.int .u32 (a.cell 0).i, .int .u8 (a.cell 1).i, .int .u64 (a.cell 2).i, .int .u64 (a.cell 3).i, .int .i64 (a.cell 4).i, .int .i64 (a.cell 5).i] = D.agg [.int .u32 (b.cell 0).i, .int .u8 (b.cell 1).i, .int .u64 (b.cell 2).i, .int .u64 (b.cell 3).i, .int .i64 (b.cell 4).i, .int .i64 (b.cell 5).i]
 rw [h0, h1, h2, h3, h4, h5]
theorem keyK_inj {a b : D} (ha : Kg a) (hb : Kg b) (h : keyK a = keyK b) : a = b := by
 obtain ⟨h0, h1⟩ := List.cons.inj h
 obtain ⟨h2, h3⟩ := List.append_inj h1 (by rw [rootN_len, rootN_len])
 have h3 := (List.cons.inj h3).1
 rw [← ha.eta, ← hb.eta]
 show D.agg (.int .u32 (a.cell 0).i :: ((rootN a 1).map (D.int .u8) ++ [.int .i64 (a.cell 17).i])) = D.agg (.int .u32 (b.cell 0).i :: ((rootN b 1).map (D.int .u8) ++ [.int .i64 (b.cell 17).i]))
 rw [h0, h2, h3]
theorem keyC_inj {a b : D} (ha : Cg a) (hb : Cg b) (h : keyC a = keyC b) : a = b := by
 rw [← ha.eta, ← hb.eta, (List.cons.inj h).1]
theorem bI_inj {a b : Bool} (h : bI a = bI b) : a = b := by cases a <;> cases b <;> simp [bI] at h <;> rfl
theorem keyF_inj {a b : D} (ha : Fg a) (hb : Fg b) (h : numsF a = numsF b) : a = b := by
 simp only [numsF, List.cons.injEq] at h
 obtain ⟨h0, h1, h2, h3, h4, h5, h6, _⟩ := h
 rw [← ha.eta, ← hb.eta]
 show D.agg [.bool (a.cell 0).b, .bool (a.cell 1).b, .int .u8 (a.cell 2).i, .int .u64 (a.cell 3).i, .int .u64 (a.cell 4).i, .int .i64 (a.cell 5).i, .int .u32 (a.cell 6).i] = D.agg [.bool (b.cell 0).b, .bool (b.cell 1).b, .int .u8 (b.cell 2).i, .int .u64 (b.cell 3).i, .int .u64 (b.cell 4).i, .int .i64 (b.cell 5).i, .int .u32 (b.cell 6).i]
 rw [bI_inj h0, bI_inj h5, h1, h2, h3, h4, h6]
theorem keyY_inj {a b : D} (ha : Yg a) (hb : Yg b) (h : numsY a = numsY b) : a = b := by
 simp only [numsY, List.cons.injEq] at h
 obtain ⟨h0, h1, h2, h3⟩ := h
 obtain ⟨h3, h4⟩ := List.append_inj h3 (by rw [rootN_len, rootN_len])
 have h4 := (List.cons.inj h4).1
 rw [← ha.eta, ← hb.eta]
 show D.agg (.bool (a.cell 0).b :: .bool (a.cell 1).b :: .int .u32 (a.cell 2).i :: ((rootN a 3).map (D.int .u8) ++ [.int .i64 (a.cell 19).i])) = D.agg (.bool (b.cell 0).b :: .bool (b.cell 1).b :: .int .u32 (b.cell 2).i :: ((rootN b 3).map (D.int .u8) ++ [.int .i64 (b.cell 19).i]))
 rw [bI_inj h0, bI_inj h2, h1, h3, h4]
theorem risO {l : List D} : risF goodO ltO l = true ↔ (∀ d, d ∈ l → goodO d = true) ∧ Srt keyO l := ris_srt keyO 6 keyO_len (fun _ _ => rfl) l
theorem risK {l : List D} : risF goodK ltK l = true ↔ (∀ d, d ∈ l → goodK d = true) ∧ Srt keyK l := ris_srt keyK 18 keyK_len (fun _ _ => rfl) l
theorem risP {l : List D} : risF goodP ltP l = true ↔ (∀ d, d ∈ l → goodP d = true) ∧ Srt keyP l := ris_srt keyP 1 keyP_len (fun a b => by rw [ltP_ord, ordP_key]) l
theorem risFF {l : List D} : risF goodF ltF l = true ↔ (∀ d, d ∈ l → goodF d = true) ∧ Srt numsF l := ris_srt numsF 7 keyF_len (fun _ _ => rfl) l
theorem risY {l : List D} : risF goodY ltY l = true ↔ (∀ d, d ∈ l → goodY d = true) ∧ Srt numsY l := ris_srt numsY 20 keyY_len (fun _ _ => rfl) l
theorem risC {l : List D} : risF goodC ltC l = true ↔ (∀ d, d ∈ l → goodC d = true) ∧ Srt keyC l := ris_srt keyC 1 keyC_len (fun a b => by unfold ltC; rw [ordC_key]) l
end Go.Proofs.YtapfhcnigmighaaGreat.Own
namespace Go.Proofs.YtapfhcnigmighaaGreat.Own
open Go Go.Proofs.YtapfhcnigmighaaGreat.GD
theorem addO_ok (a b : D) (ha : Og a) (hb : Og b) : Cl ty tab 97 [a, b] = some [.int .i64 (ordO a b)] := by
 have := s_local_add_1 0 a b (r := [.int .i64 (ordO a b)]) ?_
 · rwa [ha.eta, hb.eta] at this
 unfold local_add_1
 have hor := fun n => or_ok n [sgn (a.cell 0).i (b.cell 0).i, firstN [sgn (a.cell 1).i (b.cell 1).i, sgn (a.cell 2).i (b.cell 2).i, sgn (a.cell 3).i (b.cell 3).i, sgn (a.cell 4).i (b.cell 4).i], sgn (a.cell 5).i (b.cell 5).i] (by simp)
 simp only [List.map_cons, List.map_nil] at hor
 simp (disch := omega) only [gds, cmp_u32, prefixes_ok, cmp_int, hor]
 have : ∀ x1 x2 x3 x4 x5 x6 : Int, firstN [x1, firstN [x2, x3, x4, x5], x6] = firstN [x1, x2, x3, x4, x5, x6] := fun x1 x2 x3 x4 x5 x6 => by
  simp only [firstN]
  by_cases h1 : x1 = 0 <;> by_cases h2 : x2 = 0 <;> by_cases h3 : x3 = 0 <;> by_cases h4 : x4 = 0 <;> by_cases h5 : x5 = 0 <;> simp [h1, h2, h3, h4, h5]
 rw [this, ordO_first]
theorem addK_ok (a b : D) (ha : Kg a) (hb : Kg b) : Cl ty tab 99 [a, b] = some [.int .i64 (ordK a b)] := by
 have := s_local_add_3 0 a b (r := [.int .i64 (ordK a b)]) ?_
 · rwa [ha.eta, hb.eta] at this
 unfold local_add_3
 have hc := cmpB_cmpL (rootN a 1) (rootN b 1) (by rw [rootN_len, rootN_len]) ha.rt hb.rt
 have hb1 : Cl ty tab 93 [.sl 5 false (rKsE a 1), .sl 5 false (rKsE b 1)] = some [.int .i64 (cmpL (rootN a 1) (rootN b 1))] := by
  rw [s_bytes_Compare, rootN_eta, rootN_eta, ← hc]; rfl
 have hor := fun n => or_ok n [sgn (a.cell 0).i (b.cell 0).i, cmpL (rootN a 1) (rootN b 1), sgn (a.cell 17).i (b.cell 17).i] (by simp)
 simp only [List.map_cons, List.map_nil] at hor
 simp (disch := omega) only [gds, cmp_u32, cmp_int, hor, hb1]
 rw [← ordK_first]
theorem addP_ok (a b : D) (ha : Pg a) (hb : Pg b) : Cl ty tab 98 [a, b] = some [.int .i64 (ordP a b)] := by
 have := s_local_add_2 0 (custP a) (a.cell 1).nb (a.cell 1).els (custP b) (b.cell 1).nb (b.cell 1).els (r := [.int .i64 (ordP a b)]) ?_
 · unfold custP at this; rwa [ha.eta, hb.eta] at this
 unfold local_add_2 ordP
 simp (disch := omega) only [gds, cmp_u32]
def fst2 (x _ : D) : D := x
theorem firstO_ok (a b : D) (ha : Og a) (hb : Og b) : Cl ty tab 101 [a, b] = some [fst2 a b] := by
 have := s_local_first_101 0 a b rfl
 rwa [ha.eta, hb.eta] at this
theorem firstK_ok (a b : D) (ha : Kg a) (hb : Kg b) : Cl ty tab 105 [a, b] = some [fst2 a b] := by
 have := s_local_first_105 0 a b rfl
 rwa [ha.eta, hb.eta] at this
def unD (x y : D) : D := .agg [.int .u32 (custP x), .sl 51 (unionK (((x.cell 1).els.map D.i) ++ ((y.cell 1).els.map D.i))).isEmpty ((unionL (((x.cell 1).els.map D.i) ++ ((y.cell 1).els.map D.i))).map (D.int .u32))]
theorem mem_insK {x y : Int} : ∀ {K : List Int}, y ∈ insK x K → y = x ∨ y ∈ K
 | [], h => by simp [insK] at h; exact .inl h
 | k :: ks, h => by
  unfold insK at h
  split at h
  · exact .inr h
  · rcases List.mem_cons.1 h with rfl | h
    · exact .inr (List.mem_cons_self ..)
    · rcases mem_insK h with h | h
      · exact .inl h
      · exact .inr (List.mem_cons_of_mem _ h)
theorem mem_keysOf {y : Int} : ∀ {L K : List Int}, y ∈ keysOf K L → y ∈ K ∨ y ∈ L
 | [], K, h => .inl h
 | x :: xs, K, h => by
  rcases mem_keysOf (L := xs) (K := insK x K) h with h | h
  · rcases mem_insK h with rfl | h
    · exact .inr (List.mem_cons_self ..)
    · exact .inl h
  · exact .inr (List.mem_cons_of_mem _ h)
theorem mem_unionL {y : Int} {L : List Int} (h : y ∈ unionL L) : y ∈ L := by
 unfold unionL at h
 have h := List.mem_mergeSort.1 h
 unfold unionK at h
 split at h
 · rcases mem_keysOf (List.mem_of_mem_erase h) with h | h
   · cases h
   · exact h
 · rcases mem_keysOf h with h | h
   · cases h
   · exact h
theorem unionL_len (L : List Int) : (unionL L).length ≤ L.length := by
 unfold unionL
 rw [List.length_mergeSort]
 have := keysOf_len L []
 simp only [List.length_nil] at this
 unfold unionK
 split
 · have := List.length_erase_le (a := (0 : Int)) (l := keysOf [] L); omega
 · omega
theorem unionL_nil {L : List Int} (h : (unionK L).isEmpty = true) : unionL L = [] := by
 unfold unionL
 rw [List.isEmpty_iff.1 h]
 simp
theorem map_i {l : List D} {L : List Int} (h : l = L.map (D.int .u32)) : l.map D.i = L ∧ l = (l.map D.i).map (D.int .u32) := by
 subst h
 have : (L.map (D.int .u32)).map D.i = L := by
  rw [List.map_map]; exact (List.map_congr_left fun x _ => rfl).trans (List.map_id _)
 exact ⟨this, by rw [this]⟩
theorem unD_ok (x y : D) (hx : Pg x) (hy : Pg y) (lx : (x.cell 1).els.length ≤ 1000) (ly : (y.cell 1).els.length ≤ 1000) : Cl ty tab 103 [x, y] = some [unD x y] := by
 obtain ⟨A, eA, _⟩ := hx.els
 obtain ⟨B, eB, _⟩ := hy.els
 have h := union_ok (custP x) (custP y) (x.cell 1).nb (y.cell 1).nb A B (by rw [eA] at lx; simpa using lx) (by rw [eB] at ly; simpa using ly)
 rw [← eA, ← eB] at h
 unfold custP at h
 have ex := hx.eta
 have ey := hy.eta
 rw [ex, ey] at h
 rw [h]
 unfold unD custP
 rw [(map_i eA).1, (map_i eB).1]
theorem unD_pg (x y : D) (hx : Pg x) (hy : Pg y) (lx : (x.cell 1).els.length ≤ 1000) (ly : (y.cell 1).els.length ≤ 1000) : Pg (unD x y) ∧ Nn (unD x y) ∧ custP (unD x y) = custP x := by
 obtain ⟨A, eA, hA⟩ := hx.els
 obtain ⟨B, eB, hB⟩ := hy.els
 have l1 := unionL_len (((x.cell 1).els.map D.i) ++ ((y.cell 1).els.map D.i))
 simp only [List.length_append, List.length_map] at l1
 refine ⟨⟨by simp [unD, Vk.fits, fitsL, fits], ⟨_, rfl, fun z hz => ?_⟩, ?_⟩, ⟨fun h => ?_, ?_⟩, rfl⟩
 · have := mem_unionL hz
   rw [(map_i eA).1, (map_i eB).1] at this
   rcases List.mem_append.1 this with h | h
   · exact hA z h
   · exact hB z h
 · show ((unionL _).map (D.int .u32)).length ≤ _
   rw [List.length_map]; omega
 · have h : (unionK (((x.cell 1).els.map D.i) ++ ((y.cell 1).els.map D.i))).isEmpty = true := h
   show (unionL _).map (D.int .u32) = []
   rw [unionL_nil h]; rfl
 · show ((unionL _).map (D.int .u32)).length ≤ _
   rw [List.length_map]; omega
theorem mrg_all {P : D → Prop} {c : D → D → Int} {e : D → D → D} : ∀ (a b : List D), (∀ x, x ∈ a → P x) → (∀ y, y ∈ b → P y) → (∀ x, x ∈ a → ∀ y, y ∈ b → P (e x y)) → ∀ d, d ∈ mrg c e a b → P d
 | [], b, _, hb, _ => by rw [show mrg c e [] b = b by unfold mrg; rfl]; exact hb
 | x :: a, [], ha, _, _ => by rw [show mrg c e (x :: a) [] = x :: a by unfold mrg; rfl]; exact ha
 | x :: a, y :: b, ha, hb, he => by
  have ha' : ∀ z, z ∈ a → P z := fun z hz => ha z (List.mem_cons_of_mem _ hz)
  have hb' : ∀ z, z ∈ b → P z := fun z hz => hb z (List.mem_cons_of_mem _ hz)
  intro d hd
  rw [mrg_cc] at hd
  split at hd
  · rcases List.mem_cons.1 hd with rfl | hd
    · exact ha _ (List.mem_cons_self ..)
    · exact mrg_all a (y :: b) ha' hb (fun z hz w hw => he z (List.mem_cons_of_mem _ hz) w hw) d hd
  · split at hd
    · rcases List.mem_cons.1 hd with rfl | hd
      · exact hb _ (List.mem_cons_self ..)
      · exact mrg_all (x :: a) b ha hb' (fun z hz w hw => he z hz w (List.mem_cons_of_mem _ hw)) d hd
    · rcases List.mem_cons.1 hd with rfl | hd
      · exact he _ (List.mem_cons_self ..) _ (List.mem_cons_self ..)
      · exact mrg_all a b ha' hb' (fun z hz w hw => he z (List.mem_cons_of_mem _ hz) w (List.mem_cons_of_mem _ hw)) d hd
termination_by a b => a.length + b.length
theorem mrg_len {c : D → D → Int} {e : D → D → D} : ∀ (a b : List D), (mrg c e a b).length ≤ a.length + b.length
 | [], b => by rw [show mrg c e [] b = b by unfold mrg; rfl]; simp
 | x :: a, [] => by rw [show mrg c e (x :: a) [] = x :: a by unfold mrg; rfl]; simp
 | x :: a, y :: b => by
  rw [mrg_cc]
  have h1 := mrg_len (c := c) (e := e) a (y :: b)
  have h2 := mrg_len (c := c) (e := e) (x :: a) b
  have h3 := mrg_len (c := c) (e := e) a b
  simp only [List.length_cons] at h1 h2 ⊢
  split
  · simp only [List.length_cons]; omega
  · split <;> simp only [List.length_cons] <;> omega
termination_by a b => a.length + b.length
theorem mrg_any {Q : D → Bool} {c : D → D → Int} {e : D → D → D} : ∀ (a b : List D), (∀ x, x ∈ a → ∀ y, y ∈ b → c x y = 0 → Q (e x y) = (Q x || Q y)) → (mrg c e a b).any Q = (a.any Q || b.any Q)
 | [], b, _ => by rw [show mrg c e [] b = b by unfold mrg; rfl]; simp
 | x :: a, [], _ => by rw [show mrg c e (x :: a) [] = x :: a by unfold mrg; rfl]; simp
 | x :: a, y :: b, h => by
  rw [mrg_cc]
  split
  · rw [List.any_cons, mrg_any a (y :: b) (fun z hz w hw => h z (List.mem_cons_of_mem _ hz) w hw)]
    simp only [List.any_cons]
    cases Q x <;> cases Q y <;> simp
  · split
    · rw [List.any_cons, mrg_any (x :: a) b (fun z hz w hw => h z hz w (List.mem_cons_of_mem _ hw))]
      simp only [List.any_cons]
      cases Q x <;> cases Q y <;> simp
    · have hz : c x y = 0 := by omega
      rw [List.any_cons, mrg_any a b (fun z hz w hw => h z (List.mem_cons_of_mem _ hz) w (List.mem_cons_of_mem _ hw)), h x (List.mem_cons_self ..) y (List.mem_cons_self ..) hz]
      simp only [List.any_cons]
      cases Q x <;> cases Q y <;> simp
termination_by a b => a.length + b.length
end Go.Proofs.YtapfhcnigmighaaGreat.Own
namespace Go.Proofs.YtapfhcnigmighaaGreat.Own
open Go Go.Proofs.YtapfhcnigmighaaGreat.GD
abbrev mO (a b : List D) : List D := mrg ordO fst2 a b
abbrev mK (a b : List D) : List D := mrg ordK fst2 a b
abbrev mP (a b : List D) : List D := mrg ordP unD a b
structure Sh (o p q : List D) : Prop where
 pay : Pay o p q
 no : o.length ≤ 1000
 np : p.length ≤ 300
 nq : q.length ≤ 100
 el : ∀ d, d ∈ p → (d.cell 1).els.length ≤ 50
 nn : NnL p
theorem sh_of {o p q : List D} (hp : Pay o p q) (h : payC o p q = 0) (hn : NnL p) : Sh o p q :=
 let ⟨a, b, c, d⟩ := payC_zero h
 ⟨hp, a, b, c, long_len d, hn⟩
theorem sh_filter {o p q : List D} (f g k : D → Bool) (h : Sh o p q) : Sh (o.filter f) (p.filter g) (q.filter k) where
 pay := ⟨fun d hd => h.pay.ho d (List.mem_filter.1 hd).1, fun d hd => h.pay.hp d (List.mem_filter.1 hd).1, fun d hd => h.pay.hq d (List.mem_filter.1 hd).1, Nat.le_trans (List.length_filter_le ..) h.pay.no, Nat.le_trans (List.length_filter_le ..) h.pay.np, Nat.le_trans (List.length_filter_le ..) h.pay.nq⟩
 no := Nat.le_trans (List.length_filter_le ..) h.no
 np := Nat.le_trans (List.length_filter_le ..) h.np
 nq := Nat.le_trans (List.length_filter_le ..) h.nq
 el := fun d hd => h.el d (List.mem_filter.1 hd).1
 nn := fun d hd => h.nn d (List.mem_filter.1 hd).1
section
variable (n m t n' m' t' : Bool) (o p q o' p' q' : List D) (h : Sh o p q) (h' : Sh o' p' q')
include h h'
theorem pay_mrg : Pay (mO o o') (mP p p') (mK q q') := by
 have a1 := h.no; have a2 := h.np; have a3 := h.nq; have b1 := h'.no; have b2 := h'.np; have b3 := h'.nq
 have l1 : (mO o o').length ≤ o.length + o'.length := mrg_len ..
 have l2 : (mP p p').length ≤ p.length + p'.length := mrg_len ..
 have l3 : (mK q q').length ≤ q.length + q'.length := mrg_len ..
 refine ⟨mrg_all o o' h.pay.ho h'.pay.ho fun x hx y hy => h.pay.ho x hx, mrg_all p p' h.pay.hp h'.pay.hp fun x hx y hy => ?_, mrg_all q q' h.pay.hq h'.pay.hq fun x hx y hy => h.pay.hq x hx, by omega, by omega, by omega⟩
 have e1 := h.el x hx
 have e2 := h'.el y hy
 obtain ⟨g1, g2, g3⟩ := unD_pg x y (h.pay.hp x hx).1 (h'.pay.hp y hy).1 (by omega) (by omega)
 exact ⟨g1, by rw [g3]; exact (h.pay.hp x hx).2⟩
theorem add_is : Cl ty tab 45 [payD n m t o p q, payD n' m' t' o' p' q'] = some [payD false (mP p p').isEmpty false (mO o o') (mP p p') (mK q q')] := by
 have a1 := h.no; have a2 := h.np; have a3 := h.nq; have b1 := h'.no; have b2 := h'.np; have b3 := h'.nq
 have l1 : (mO o o').length ≤ o.length + o'.length := mrg_len ..
 have l2 : (mP p p').length ≤ p.length + p'.length := mrg_len ..
 have l3 : (mK q q').length ≤ q.length + q'.length := mrg_len ..
 have c1 := mergeO_ok ordO fst2 n n' o o' (fun d hd => by rcases hd with hd | hd; exact (h.pay.ho d hd).eta; exact (h'.pay.ho d hd).eta) (fun x y hx hy => (h.pay.ho x hx).eta)
  (fun x y hx hy => addO_ok x y (h.pay.ho x hx) (h'.pay.ho y hy)) (fun x y hx hy => firstO_ok x y (h.pay.ho x hx) (h'.pay.ho y hy)) (by omega) (by omega)
 have c2 := mergeK_ok ordK fst2 t t' q q' (fun d hd => by rcases hd with hd | hd; exact (h.pay.hq d hd).eta; exact (h'.pay.hq d hd).eta) (fun x y hx hy => (h.pay.hq x hx).eta)
  (fun x y hx hy => addK_ok x y (h.pay.hq x hx) (h'.pay.hq y hy)) (fun x y hx hy => firstK_ok x y (h.pay.hq x hx) (h'.pay.hq y hy)) (by omega) (by omega)
 have c3 := mergeP_ok ordP unD m m' p p' (fun d hd => by rcases hd with hd | hd; exact (h.pay.hp d hd).1.eta; exact (h'.pay.hp d hd).1.eta)
  (fun x y hx hy => (unD_pg x y (h.pay.hp x hx).1 (h'.pay.hp y hy).1 (by have := h.el x hx; omega) (by have := h'.el y hy; omega)).1.eta)
  (fun x y hx hy => addP_ok x y (h.pay.hp x hx).1 (h'.pay.hp y hy).1)
  (fun x y hx hy => unD_ok x y (h.pay.hp x hx).1 (h'.pay.hp y hy).1 (by have := h.el x hx; omega) (by have := h'.el y hy; omega)) (by omega) (by omega)
 have c4 := twin_ok false false false (mO o o') (mP p p') (mK q q') (fun h => by cases h) (fun h => by cases h) (by omega) (by omega) (by omega)
  (mrg_all p p' (fun d hd => ⟨(h.pay.hp d hd).1, h.nn d hd, by have := h.el d hd; omega⟩) (fun d hd => ⟨(h'.pay.hp d hd).1, h'.nn d hd, by have := h'.el d hd; omega⟩)
   fun x hx y hy => by
    obtain ⟨g1, g2, _⟩ := unD_pg x y (h.pay.hp x hx).1 (h'.pay.hp y hy).1 (by have := h.el x hx; omega) (by have := h'.el y hy; omega)
    exact ⟨g1, g2⟩)
 refine s_local_add 0 n o m p t q n' o' m' p' t' q' ?_
 unfold local_add
 simp (disch := omega) only [gds, c1, c2, c3, c4]
theorem add_ok : ∃ m'', Cl ty tab 45 [payD n m t o p q, payD n' m' t' o' p' q'] = some [payD false m'' false (mO o o') (mP p p') (mK q q')] := ⟨_, add_is n m t n' m' t' o p q o' p' q' h h'⟩
end
section
variable (n m t : Bool) (o p q : List D) (x : D) (hp : Pay o p q) (hx : Xg x) (hn : n = true → o = []) (hm : m = true → p = []) (ht : t = true → q = []) (hN : NnL p) (hN2 : NnL (x.cell 4).els)
include hp hx hn hm ht hN hN2
theorem apply_is (h1 : payC o p q = 0) (h2 : xC x = 0) : Sh o p q ∧ Sh (x.cell 3).els (x.cell 4).els (x.cell 5).els ∧ Cl ty tab 21 [payD n m t o p q, x] = some (if payC (mO (o.filter fun d => !goneO x d) (x.cell 3).els) (mP (p.filter fun d => !goneP x d) (x.cell 4).els) (mK (q.filter fun d => !goneK x d) (x.cell 5).els) = 0 then
   [payD false (mP (p.filter fun d => !goneP x d) (x.cell 4).els).isEmpty false (mO (o.filter fun d => !goneO x d) (x.cell 3).els) (mP (p.filter fun d => !goneP x d) (x.cell 4).els) (mK (q.filter fun d => !goneK x d) (x.cell 5).els), .int .i64 0] else [nilPay, .int .i64 4]) := by
 have e : D.agg (etaCells ks0 x 0) = x := hx.eta
 obtain ⟨n', m', t', hf⟩ := filter_good n m t o p q x hp hx h1 h2 hn hm ht hN
 have s1 := sh_of hp h1 hN
 have s2 := sh_of hx.pay (xC_zero h2).2.2.2 hN2
 have s3 := sh_filter (fun d => !goneO x d) (fun d => !goneP x d) (fun d => !goneK x d) s1
 have ha := add_is n' m' t' (x.cell 3).nb (x.cell 4).nb (x.cell 5).nb _ _ _ _ _ _ s3 s2
 have hc := diffCheck_ok false (mP (p.filter fun d => !goneP x d) (x.cell 4).els).isEmpty false _ _ _ (pay_mrg _ _ _ _ _ _ s3 s2)
 refine ⟨s1, s2, ?_⟩
 have key := s_local_Apply 0 n o m p t q x (r := if payC (mO (o.filter fun d => !goneO x d) (x.cell 3).els) (mP (p.filter fun d => !goneP x d) (x.cell 4).els) (mK (q.filter fun d => !goneK x d) (x.cell 5).els) = 0 then
   [payD false (mP (p.filter fun d => !goneP x d) (x.cell 4).els).isEmpty false (mO (o.filter fun d => !goneO x d) (x.cell 3).els) (mP (p.filter fun d => !goneP x d) (x.cell 4).els) (mK (q.filter fun d => !goneK x d) (x.cell 5).els), .int .i64 0] else [nilPay, .int .i64 4]) ?_
 · rwa [e] at key
 unfold local_Apply
 by_cases h3 : payC (mO (o.filter fun d => !goneO x d) (x.cell 3).els) (mP (p.filter fun d => !goneP x d) (x.cell 4).els) (mK (q.filter fun d => !goneK x d) (x.cell 5).els) = 0
 · simp (disch := omega) only [gds, e, hf, ha, hc, h3, ne_eq, not_true_eq_false]
 · simp (disch := omega) only [gds, e, hf, ha, hc, h3, ne_eq, not_true_eq_false, not_false_eq_true]
theorem apply_hd (h1 : payC o p q = 0) (h2 : xC x = 0) : ∃ m'' : Bool, Sh o p q ∧ Sh (x.cell 3).els (x.cell 4).els (x.cell 5).els ∧ Cl ty tab 21 [payD n m t o p q, x] = some (if payC (mO (o.filter fun d => !goneO x d) (x.cell 3).els) (mP (p.filter fun d => !goneP x d) (x.cell 4).els) (mK (q.filter fun d => !goneK x d) (x.cell 5).els) = 0 then
   [payD false m'' false (mO (o.filter fun d => !goneO x d) (x.cell 3).els) (mP (p.filter fun d => !goneP x d) (x.cell 4).els) (mK (q.filter fun d => !goneK x d) (x.cell 5).els), .int .i64 0] else [nilPay, .int .i64 4]) :=
 let ⟨a, b, c⟩ := apply_is n m t o p q x hp hx hn hm ht hN hN2 h1 h2
 ⟨_, a, b, c⟩
theorem apply_good (h1 : payC o p q = 0) (h2 : xC x = 0) (h3 : payC (mO (o.filter fun d => !goneO x d) (x.cell 3).els) (mP (p.filter fun d => !goneP x d) (x.cell 4).els) (mK (q.filter fun d => !goneK x d) (x.cell 5).els) = 0) :
  ∃ m'' : Bool, Cl ty tab 21 [payD n m t o p q, x] = some [payD false m'' false (mO (o.filter fun d => !goneO x d) (x.cell 3).els) (mP (p.filter fun d => !goneP x d) (x.cell 4).els) (mK (q.filter fun d => !goneK x d) (x.cell 5).els), .int .i64 0] := by
 obtain ⟨m'', _, _, h⟩ := apply_hd n m t o p q x hp hx hn hm ht hN hN2 h1 h2
 rw [if_pos h3] at h
 exact ⟨m'', h⟩
end
end Go.Proofs.YtapfhcnigmighaaGreat.Own
namespace Go.Proofs.YtapfhcnigmighaaGreat.Own
open Go Go.Proofs.YtapfhcnigmighaaGreat.GD
abbrev rulD (a b c n m t : Bool) (F Y C o p q : List D) : D := .agg [.sl 70 a F, .sl 73 b Y, .sl 51 c C, .sl 58 n o, .sl 84 m p, .sl 64 t q]
abbrev nilRul : D := rulD true true true true true true [] [] [] [] [] []
abbrev mF (a b : List D) : List D := mrg ordF fst2 a b
abbrev mY (a b : List D) : List D := mrg ordY fst2 a b
abbrev mC (a b : List D) : List D := mrg ordC fst2 a b
def jR (m' : Bool) (x y : D) : D := rulD false false false false m' false (mF (x.cell 0).els (y.cell 0).els) (mY (x.cell 1).els (y.cell 1).els) (mC (x.cell 2).els (y.cell 2).els) (mO (x.cell 3).els (y.cell 3).els) (mP (x.cell 4).els (y.cell 4).els) (mK (x.cell 5).els (y.cell 5).els)
structure Jn (F Y C o p q : List D) : Prop where
 hF : ∀ d, d ∈ F → Fg d
 hY : ∀ d, d ∈ Y → Yg d
 hC : ∀ d, d ∈ C → Cg d
 nF : F.length ≤ 1000
 nY : Y.length ≤ 1000
 nC : C.length ≤ 1000
theorem xg_rul (a b c n m t : Bool) {F Y C o p q : List D} (h : Jn F Y C o p q) (hp : Pay o p q) : Xg (rulD a b c n m t F Y C o p q) :=
 ⟨by simp [Vk.fits, fitsL, fits, xKs], h.hF, h.hY, h.hC, (by have := h.nF; show F.length ≤ _; omega), (by have := h.nY; show Y.length ≤ _; omega), (by have := h.nC; show C.length ≤ _; omega), hp⟩
theorem jn_of {x : D} (hx : Xg x) (hz : xC x = 0) : Jn (x.cell 0).els (x.cell 1).els (x.cell 2).els (x.cell 3).els (x.cell 4).els (x.cell 5).els :=
 ⟨hx.hf, hx.hy, hx.hc, by have := (xC_zero hz).1; omega, by have := (xC_zero hz).2.1; omega, by have := (xC_zero hz).2.2.1; omega⟩
theorem jn_mrg {F Y C o p q F' Y' C' o' p' q' : List D} (h : Jn F Y C o p q) (h' : Jn F' Y' C' o' p' q') (l1 : F.length + F'.length ≤ 1000) (l2 : Y.length + Y'.length ≤ 1000) (l3 : C.length + C'.length ≤ 1000) : Jn (mF F F') (mY Y Y') (mC C C') (mO o o') (mP p p') (mK q q') :=
 ⟨mrg_all F F' h.hF h'.hF fun x hx y hy => h.hF x hx, mrg_all Y Y' h.hY h'.hY fun x hx y hy => h.hY x hx, mrg_all C C' h.hC h'.hC fun x hx y hy => h.hC x hx, Nat.le_trans (mrg_len ..) l1, Nat.le_trans (mrg_len ..) l2, Nat.le_trans (mrg_len ..) l3⟩
theorem firstF_ok (a b : D) (ha : Fg a) (hb : Fg b) : Cl ty tab 38 [a, b] = some [fst2 a b] := by
 have := s_local_first_38 0 a b rfl
 rwa [ha.eta, hb.eta] at this
theorem firstY_ok (a b : D) (ha : Yg a) (hb : Yg b) : Cl ty tab 41 [a, b] = some [fst2 a b] := by
 have := s_local_first_41 0 a b rfl
 have ea := ha.eta
 have eb := hb.eta
 unfold yKsE at ea eb
 rwa [ea, eb] at this
theorem firstC_ok (a b : D) (ha : Cg a) (hb : Cg b) : Cl ty tab 44 [a, b] = some [fst2 a b] := by
 have := s_local_first_44 0 (a.cell 0).i (b.cell 0).i rfl
 rwa [ha.eta, hb.eta] at this
abbrev joinZ : D := .pv [.ov 70 true [], .ov 73 true [], .ov 51 true [], .ov 58 true [], .ov 84 true [], .ov 64 true []]
section
variable (k : Nat) (l : List D) (i : Nat) (x : D) (a b c n m t : Bool) (F Y C o p q : List D) (ag : List D → Option (List D))
theorem join_bad (hl : l.length ≤ 20) (hi : i < l.length) (hxi : l[i] = x) (hx : Xg x) (hz : xC x ≠ 0) : local_Join.b0 (Cl ty tab) k l [.int .i64 i, joinZ, .pv [.ov 70 a F, .ov 73 b Y, .ov 51 c C, .sl 58 n o, .sl 84 m p, .sl 64 t q]] ag = some [nilRul, .int .i64 (xC x)] := by
 have e : D.agg (etaCells ks0 x 0) = x := hx.eta
 have c1 := localCheck_ok x hx
 unfold local_Join.b0
 simp (disch := omega) only [gds, getD_get, hxi, e, c1, hz, ne_eq, not_false_eq_true]
theorem join_fin (hl : l.length ≤ 20) (hi : i = l.length) (J : Jn F Y C o p q) (hp : Pay o p q) : local_Join.b0 (Cl ty tab) k l [.int .i64 i, joinZ, .pv [.ov 70 a F, .ov 73 b Y, .ov 51 c C, .sl 58 n o, .sl 84 m p, .sl 64 t q]] ag =
  some (if xC (rulD a b c n m t F Y C o p q) = 0 then [rulD a b c n m t F Y C o p q, .int .i64 0] else [nilRul, .int .i64 4]) := by
 have e : D.agg (etaList ks0 [.ov 70 a F, .ov 73 b Y, .ov 51 c C, .sl 58 n o, .sl 84 m p, .sl 64 t q] 0) = rulD a b c n m t F Y C o p q := rfl
 have c1 := localCheck_ok _ (xg_rul a b c n m t J hp)
 subst hi
 unfold local_Join.b0
 by_cases h : xC (rulD a b c n m t F Y C o p q) = 0
 · simp (disch := omega) only [gds, e, c1, h, ne_eq, not_true_eq_false]
 · simp (disch := omega) only [gds, e, c1, h, ne_eq, not_false_eq_true]
theorem join_step (hl : l.length ≤ 20) (hi : i < l.length) (hxi : l[i] = x) (hx : Xg x) (hz : xC x = 0) (hN : NnL (x.cell 4).els) (J : Jn F Y C o p q) (S : Sh o p q) :
  ∃ m' : Bool, ∀ ag, local_Join.b0 (Cl ty tab) k l [.int .i64 i, joinZ, .pv [.ov 70 a F, .ov 73 b Y, .ov 51 c C, .sl 58 n o, .sl 84 m p, .sl 64 t q]] ag =
   ag [.int .i64 ((i + 1 : Nat) : Int), joinZ, .pv [.ov 70 false (mF F (x.cell 0).els), .ov 73 false (mY Y (x.cell 1).els), .ov 51 false (mC C (x.cell 2).els), .sl 58 false (mO o (x.cell 3).els), .sl 84 m' (mP p (x.cell 4).els), .sl 64 false (mK q (x.cell 5).els)]] := by
 obtain ⟨f1, f2, f3, f4⟩ := xC_zero hz
 obtain ⟨m', hadd⟩ := add_ok n m t (x.cell 3).nb (x.cell 4).nb (x.cell 5).nb o p q _ _ _ S (sh_of hx.pay f4 hN)
 refine ⟨m', fun ag => ?_⟩
 have e : D.agg (etaCells ks0 x 0) = x := hx.eta
 have c1 := localCheck_ok x hx
 have p1 := s_local_byPrefix 0 (r := [.agg [.fn 86 [], .fn 91 []]]) rfl
 have p2 := s_local_byKey 0 (r := [.agg [.fn 92 [], .fn 95 []]]) rfl
 have p3 := s_local_byCustomer 0 (r := [.agg [.fn 90 [], .fn 96 []]]) rfl
 have j1 := J.nF; have j2 := J.nY; have j3 := J.nC
 have cF := mergeF_ok ordF fst2 a (x.cell 0).nb F (x.cell 0).els (fun d hd => by rcases hd with hd | hd; exact (J.hF d hd).eta; exact (hx.hf d hd).eta) (fun u v hu hv => (J.hF u hu).eta)
  (fun u v hu hv => byPrefix1_ok u v (J.hF u hu) (hx.hf v hv)) (fun u v hu hv => firstF_ok u v (J.hF u hu) (hx.hf v hv)) (by omega) (by omega)
 have cY := mergeY_ok ordY fst2 b (x.cell 1).nb Y (x.cell 1).els (fun d hd => by rcases hd with hd | hd; exact (J.hY d hd).eta; exact (hx.hy d hd).eta) (fun u v hu hv => (J.hY u hu).eta)
  (fun u v hu hv => byKey1_ok u v (J.hY u hu) (hx.hy v hv)) (fun u v hu hv => firstY_ok u v (J.hY u hu) (hx.hy v hv)) (by omega) (by omega)
 have cC := mergeC_ok ordC fst2 c (x.cell 2).nb C (x.cell 2).els (fun d hd => by rcases hd with hd | hd; exact (J.hC d hd).eta; exact (hx.hc d hd).eta) (fun u v hu hv => (J.hC u hu).eta)
  (fun u v hu hv => byCustomer_ok u v (J.hC u hu) (hx.hc v hv)) (fun u v hu hv => firstC_ok u v (J.hC u hu) (hx.hc v hv)) (by omega) (by omega)
 clear J S
 unfold local_Join.b0
 rw [show ((i + 1 : Nat) : Int) = (i : Int) + 1 by omega]
 simp (disch := omega) only [gds, getD_get, hxi, e, c1, hz, p1, p2, p3, cF, cY, cC, hadd, ne_eq, not_true_eq_false]
end
theorem nil_mrg (c : D → D → Int) (e : D → D → D) (b : List D) : mrg c e [] b = b := by rw [mrg]
theorem jn_nil : Jn [] [] [] [] [] [] := ⟨fun d h => (by cases h), fun d h => (by cases h), fun d h => (by cases h), (by simp), (by simp), (by simp)⟩
theorem sh_nil : Sh [] [] [] := ⟨⟨fun d h => (by cases h), fun d h => (by cases h), fun d h => (by cases h), (by simp), (by simp), (by simp)⟩, (by simp), (by simp), (by simp), fun d h => (by cases h), fun d h => (by cases h)⟩
section
variable (x : D) (hx : Xg x) (hN : NnL (x.cell 4).els)
include hx hN
end
section
variable (x y : D) (hx : Xg x) (hN : NnL (x.cell 4).els) (hy : Xg y) (hN2 : NnL (y.cell 4).els)
include hx hN hy hN2
theorem join2_ok : (∃ e, e ≠ 0 ∧ ¬ (xC x = 0 ∧ xC y = 0) ∧ Cl ty tab 12 [.sl 33 false [x, y]] = some [nilRul, .int .i64 e]) ∨
  (xC x = 0 ∧ xC y = 0 ∧ ∃ m', Cl ty tab 12 [.sl 33 false [x, y]] = some (if xC (jR m' x y) = 0 then
   [jR m' x y, .int .i64 0] else [nilRul, .int .i64 4])) := by
 have key : ∀ r, iter 4 (local_Join.b0 (Cl ty tab) 4 [x, y]) [.int .i64 0, joinZ, .pv [.ov 70 true [], .ov 73 true [], .ov 51 true [], .sl 58 true [], .sl 84 true [], .sl 64 true []]] = some r → Cl ty tab 12 [.sl 33 false [x, y]] = some r := fun r h => by
  refine s_local_Join 4 false [x, y] ?_
  unfold local_Join
  simp (disch := omega) only [gds, show ¬ ((20 : Int) < ((0 + 1 + 1 : Nat) : Int)) by omega]
  exact h
 by_cases hz : xC x = 0
 case neg =>
  refine .inl ⟨xC x, hz, fun h => hz h.1, key _ ?_⟩
  rw [iter]
  exact join_bad 4 [x, y] 0 x true true true true true true [] [] [] [] [] [] _ (by simp) (by simp) rfl hx hz
 obtain ⟨m1, h1⟩ := join_step 4 [x, y] 0 x true true true true true true [] [] [] [] [] [] (by simp) (by simp) rfl hx hz hN jn_nil sh_nil
 simp only [mF, mY, mC, mO, mP, mK, nil_mrg] at h1
 have h1 := fun ag => h1 ag
 by_cases hz2 : xC y = 0
 case neg =>
  refine .inl ⟨xC y, hz2, fun h => hz2 h.2, key _ ?_⟩
  rw [iter]
  refine (h1 _).trans ?_
  rw [iter]
  exact join_bad 4 [x, y] 1 y _ _ _ _ _ _ _ _ _ _ _ _ _ (by simp) (by simp) rfl hy hz2
 have sx := sh_of hx.pay (xC_zero hz).2.2.2 hN
 have sy := sh_of hy.pay (xC_zero hz2).2.2.2 hN2
 obtain ⟨m2, h2⟩ := join_step 4 [x, y] 1 y false false false false m1 false _ _ _ _ _ _ (by simp) (by simp) rfl hy hz2 hN2 (jn_of hx hz) sx
 refine .inr ⟨hz, hz2, m2, key _ ?_⟩
 rw [iter]
 refine (h1 _).trans ?_
 rw [iter]
 refine (h2 _).trans ?_
 rw [iter]
 exact join_fin 4 [x, y] 2 false false false false m2 false _ _ _ _ _ _ _ (by simp) (by simp) (jn_mrg (jn_of hx hz) (jn_of hy hz2) (by have := xC_zero hz; have := xC_zero hz2; omega) (by have := xC_zero hz; have := xC_zero hz2; omega) (by have := xC_zero hz; have := xC_zero hz2; omega)) (pay_mrg _ _ _ _ _ _ sx sy)
end
end Go.Proofs.YtapfhcnigmighaaGreat.Own
namespace Go.Proofs.YtapfhcnigmighaaGreat.Own
open Go Go.Proofs.YtapfhcnigmighaaGreat.GD
theorem mem_insK' {x y : Int} : ∀ {K : List Int}, y ∈ insK x K ↔ y = x ∨ y ∈ K
 | [] => by simp [insK]
 | k :: ks => by
  unfold insK
  split
  · rename_i h
    subst h
    exact ⟨.inr, fun h => h.elim (fun h => by subst h; exact List.mem_cons_self ..) id⟩
  · simp only [List.mem_cons, mem_insK' (K := ks)]
    exact ⟨fun h => by rcases h with h | h | h <;> simp [h], fun h => by rcases h with h | h | h <;> simp [h]⟩
theorem mem_keysOf' {y : Int} : ∀ {L K : List Int}, y ∈ keysOf K L ↔ y ∈ K ∨ y ∈ L
 | [], K => by simp [keysOf]
 | x :: xs, K => by
  rw [keysOf, mem_keysOf', mem_insK', List.mem_cons]
  exact ⟨fun h => by rcases h with (h | h) | h <;> simp [h], fun h => by rcases h with h | h | h <;> simp [h]⟩
theorem nodup_insK (x : Int) : ∀ {K : List Int}, K.Nodup → (insK x K).Nodup
 | [], _ => by simp [insK]
 | k :: ks, h => by
  unfold insK
  split
  · exact h
  · rename_i hk
    obtain ⟨h1, h2⟩ := List.nodup_cons.1 h
    refine List.nodup_cons.2 ⟨fun hm => ?_, nodup_insK x h2⟩
    rcases mem_insK'.1 hm with hm | hm
    · exact hk hm.symm
    · exact h1 hm
theorem nodup_keysOf : ∀ {L K : List Int}, K.Nodup → (keysOf K L).Nodup
 | [], K, h => h
 | x :: xs, K, h => nodup_keysOf (L := xs) (nodup_insK x h)
theorem one_of {K : List Int} {c : Int} (h : K.Nodup) (hc : ∀ z, z ∈ K → z = c) : K.length ≤ 1 := by
 match K, h with
 | [], _ => simp
 | [_], _ => simp
 | a :: b :: t, h =>
  have := (List.nodup_cons.1 h).1
  rw [hc a (by simp), hc b (by simp)] at this
  simp at this
theorem mem_union {y : Int} {L : List Int} : y ∈ unionL L ↔ y ∈ L ∧ (y ≠ 0 ∨ ∀ z, z ∈ L → z = 0) := by
 unfold unionL
 rw [List.mem_mergeSort]
 unfold unionK
 have hn : (keysOf [] L).Nodup := nodup_keysOf List.nodup_nil
 have hm : ∀ z, z ∈ keysOf [] L ↔ z ∈ L := fun z => by rw [mem_keysOf']; simp
 split
 · rename_i h
   rw [hn.mem_erase_iff, hm]
   constructor
   · rintro ⟨h1, h2⟩; exact ⟨h2, .inl h1⟩
   · rintro ⟨h1, h2⟩
     refine ⟨fun e => ?_, h1⟩
     rcases h2 with h2 | h2
     · exact h2 e
     · have := one_of hn (c := 0) fun z hz => h2 z ((hm z).1 hz)
       omega
 · rename_i h
   rw [hm]
   refine ⟨fun hy => ⟨hy, ?_⟩, fun h => h.1⟩
   by_cases e : y = 0
   · right
     intro z hz
     have h1 := (hm y).2 hy
     have h2 := (hm z).2 hz
     match hk : keysOf [] L with
     | [] => rw [hk] at h1; cases h1
     | [a] =>
      rw [hk] at h1 h2
      have := List.mem_singleton.1 h1
      have := List.mem_singleton.1 h2
      omega
     | a :: b :: t => rw [hk] at h; simp at h
   · exact .inl e
theorem payC_ris {o p q : List D} (h : payC o p q = 0) : risF goodO ltO o = true ∧ risF goodP ltP p = true ∧ risF goodK ltK q = true := by
 unfold payC at h
 split at h
 · cases h
 · split at h
   · assumption
   · cases h
end Go.Proofs.YtapfhcnigmighaaGreat.Own
namespace Go.Proofs.YtapfhcnigmighaaGreat.Own
open Go Go.Proofs.YtapfhcnigmighaaGreat.GD
section
variable (key : D → List Int) (n : Nat) (hk : ∀ d, (key d).length = n)
include hk
section
variable (e : D → D → D) (he : ∀ x y, key x = key y → key (e x y) = key x)
include he
end
end
theorem int_ext : ∀ {l m : List Int}, l.Pairwise (· < ·) → m.Pairwise (· < ·) → (∀ d, d ∈ l ↔ d ∈ m) → l = m
 | [], [], _, _, _ => rfl
 | [], y :: m, _, _, h => by have := (h y).2 (List.mem_cons_self ..); cases this
 | x :: l, [], _, _, h => by have := (h x).1 (List.mem_cons_self ..); cases this
 | x :: l, y :: m, hl, hm, h => by
  obtain ⟨l1, l2⟩ := List.pairwise_cons.1 hl
  obtain ⟨m1, m2⟩ := List.pairwise_cons.1 hm
  have e : x = y := by
   rcases List.mem_cons.1 ((h x).1 (List.mem_cons_self ..)) with e | h1
   · exact e
   · rcases List.mem_cons.1 ((h y).2 (List.mem_cons_self ..)) with e | h2
     · exact e.symm
     · have a1 := m1 x h1
       have a2 := l1 y h2
       omega
  subst e
  rw [int_ext l2 m2 fun d => ?_]
  constructor
  · intro hd
    rcases List.mem_cons.1 ((h d).1 (List.mem_cons_of_mem _ hd)) with e | h1
    · have := l1 d hd; omega
    · exact h1
  · intro hd
    rcases List.mem_cons.1 ((h d).2 (List.mem_cons_of_mem _ hd)) with e | h1
    · have := m1 d hd; omega
    · exact h1
theorem union_lt (L : List Int) : (unionL L).Pairwise (· < ·) := by
 have hn : (unionL L).Nodup := by
  unfold unionL
  refine (List.mergeSort_perm _ _).nodup_iff.2 ?_
  unfold unionK
  split
  · exact (nodup_keysOf List.nodup_nil).erase _
  · exact nodup_keysOf List.nodup_nil
 have hs : (unionL L).Pairwise fun a b => a ≤ b := by
  have := List.pairwise_mergeSort (le := fun a b : Int => decide (a ≤ b)) (fun a b c h1 h2 => by simp at h1 h2 ⊢; omega) (fun a b => by simp; omega) (unionK L)
  exact this.imp fun h => by simpa using h
 exact hs.imp₂ (fun a b h1 h2 => by omega) hn
theorem union_nb (L : List Int) : (unionK L).isEmpty = (unionL L).isEmpty := by
 unfold unionL
 have := List.length_mergeSort (le := fun x y : Int => decide (x ≤ y)) (unionK L)
 cases h1 : unionK L <;> cases h2 : (unionK L).mergeSort (fun x y => decide (x ≤ y)) <;> rw [h1] at this h2 <;> rw [h2] at this <;> simp_all
theorem unD_form (x y : D) : unD x y = .agg [.int .u32 (custP x), .sl 51 (unionL ((x.cell 1).els.map D.i ++ (y.cell 1).els.map D.i)).isEmpty ((unionL ((x.cell 1).els.map D.i ++ (y.cell 1).els.map D.i)).map (D.int .u32))] := by
 unfold unD
 rw [union_nb]
theorem union_comm (A B : List Int) : unionL (A ++ B) = unionL (B ++ A) := by
 refine int_ext (union_lt _) (union_lt _) fun v => ?_
 have : ∀ z, z ∈ A ++ B ↔ z ∈ B ++ A := fun z => by rw [List.mem_append, List.mem_append]; exact Or.comm
 rw [mem_union, mem_union, this]
 exact and_congr_right fun _ => or_congr_right ⟨fun h z hz => h z ((this z).2 hz), fun h z hz => h z ((this z).1 hz)⟩
theorem unD_comm {x y : D} (h : custP x = custP y) : unD x y = unD y x := by
 rw [unD_form, unD_form, h, union_comm]
theorem keyP_un (x y : D) (h : keyP x = keyP y) : keyP (unD x y) = keyP x := rfl
end Go.Proofs.YtapfhcnigmighaaGreat.Own
namespace Go.Proofs.YtapfhcnigmighaaGreat.Own
open Go Go.Proofs.YtapfhcnigmighaaGreat.GD
theorem pay_of {d : D} (hf : Vk.fits ⟨true, [.sl 58, .sl 84, .sl 64]⟩ d = true) (hw : WT ty d) :
  ∃ n m t o p q, d = payD n m t o p q ∧ Pay o p q ∧ (n = true → o = []) ∧ (m = true → p = []) ∧ (t = true → q = []) ∧ NnL p := by
 obtain ⟨cs, rfl, hc⟩ := fits_agg hf
 obtain ⟨a, cs, rfl, ha, hc⟩ := fitsL_cons hc
 obtain ⟨b, cs, rfl, hb, hc⟩ := fitsL_cons hc
 obtain ⟨c, cs, rfl, hcc, hc⟩ := fitsL_cons hc
 obtain rfl := fitsL_nil hc
 obtain ⟨n, o, rfl⟩ := fits_sl ha
 obtain ⟨m, p, rfl⟩ := fits_sl hb
 obtain ⟨t, q, rfl⟩ := fits_sl hcc
 obtain ⟨a1, a2, a3, a4⟩ := (hw.cells (.sl 58 n o) (by simp)).els
 obtain ⟨b1, b2, b3, b4⟩ := (hw.cells (.sl 84 m p) (by simp)).els
 obtain ⟨c1, c2, c3, c4⟩ := (hw.cells (.sl 64 t q) (by simp)).els
 refine ⟨n, m, t, o, p, q, rfl, ⟨fun d hd => og_of (a3 _ rfl d hd) (a4 d hd), fun d hd => pg_of (b3 _ rfl d hd) (b4 d hd), fun d hd => kg_of (c3 _ rfl d hd) (c4 d hd), a1, b1, c1⟩, a2, b2, c2, fun d hd => ?_⟩
 have hf := b3 _ rfl d hd
 have hw := b4 d hd
 obtain ⟨h1, h2⟩ := wt_cell hf hw (j := 1) rfl
 obtain ⟨nb, els, hn⟩ := fits_sl h2
 rw [hn] at h1 ⊢
 exact h1.els.2.1
theorem nnl_of {x : D} (hf : Vk.fits ⟨true, xKs⟩ x = true) (hw : WT ty x) : NnL (x.cell 4).els := by
 obtain ⟨n4, h4⟩ := els_of hf hw (j := 4) rfl (k := ⟨true, [.int .u32, .sl 51]⟩) rfl
 intro d hd
 obtain ⟨h1, h2⟩ := wt_cell (h4 d hd).1 (h4 d hd).2 (j := 1) rfl
 obtain ⟨nb, els, hn⟩ := fits_sl h2
 rw [hn] at h1 ⊢
 exact h1.els.2.1
end Go.Proofs.YtapfhcnigmighaaGreat.Own
namespace Go.Proofs.YtapfhcnigmighaaGreat.Own
open Go Go.Proofs.YtapfhcnigmighaaGreat.GD
instance (l : List D) (i : Nat) : Decidable (up l i) := decidable_of_iff (∀ j, j < l.length → i ≤ j → at' l (j - 1) < at' l j) ⟨fun h j h1 h2 => h j h2 h1, fun h j h1 h2 => h j h2 h1⟩
instance (x : Int) (l : List D) : Decidable (Good x l) := inferInstanceAs (Decidable (_ ∧ _ ∧ _ ∧ _ ∧ _))
theorem goodP_of {d : D} (h1 : (d.cell 1).els.length ≤ 50) (h2 : Good (custP d) (d.cell 1).els) : goodP d = true := by unfold goodP; rw [chk0 (by omega) h2]; rfl
theorem payC_of {o p q : List D} (h1 : o.length ≤ 1000 ∧ p.length ≤ 300 ∧ q.length ≤ 100 ∧ longP p = false) (h2 : risF goodO ltO o = true) (h3 : risF goodP ltP p = true) (h4 : risF goodK ltK q = true) : payC o p q = 0 := by
 unfold payC
 rw [if_neg (by rintro (h | h | h | h) <;> first | omega | (rw [h1.2.2.2] at h; cases h)), if_pos ⟨h2, h3, h4⟩]
theorem gives_ok (n m t : Bool) (o p q : List D) (x : D) (n' m' t' : Bool) (o' p' q' : List D) (hp : Pay o p q) (hx : Xg x) (hn : n = true → o = []) (hm : m = true → p = []) (ht : t = true → q = []) (hN : NnL p) (hN2 : NnL (x.cell 4).els)
  (h1 : payC o p q = 0) (h2 : xC x = 0) (hp' : Pay o' p' q') (h3 : payC o' p' q' = 0) (eo : mO (o.filter fun d => !goneO x d) (x.cell 3).els = o') (ep : mP (p.filter fun d => !goneP x d) (x.cell 4).els = p') (eq : mK (q.filter fun d => !goneK x d) (x.cell 5).els = q') :
  Cl ty tab 35 [payD n m t o p q, x, payD n' m' t' o' p' q'] = some [.bool true] := by
 obtain ⟨m'', ha⟩ := apply_good n m t o p q x hp hx hn hm ht hN hN2 h1 h2 (by rw [eo, ep, eq]; exact h3)
 rw [eo, ep, eq] at ha
 have ex : D.agg (etaCells ks0 x 0) = x := hx.eta
 have := s_gatepathlaw43_gives 0 n o m p t q x n' o' m' p' t' q' (r := [.bool true]) ?_
 · rwa [ex] at this
 unfold gatepathlaw43_gives
 obtain ⟨r, hr, hr2⟩ := same34_ok false m'' false n' m' t' o' p' q' o' p' q' hp' hp'
 obtain rfl : r = true := hr2.2 ⟨rfl, rfl, rfl⟩
 simp (disch := omega) only [gds, ex, ha, hr]
def exO (as low : Int) (len : Int) : D := .agg [.int .u32 as, .int .u8 4, .int .u64 0, .int .u64 low, .int .i64 len, .int .i64 len]
def exP (c : Int) (L : List Int) : D := .agg [.int .u32 c, .sl 51 false (L.map (D.int .u32))]
def exX (f o p : List D) : D := .agg [.sl 70 f.isEmpty f, .sl 73 true [], .sl 51 true [], .sl 58 o.isEmpty o, .sl 84 p.isEmpty p, .sl 64 true []]
theorem exO_og {a b c : Int} (hb : 0 ≤ b ∧ b < 18446744073709551616) : Og (exO a b c) := ⟨rfl, ⟨(by show (0 : Int) ≤ 0; omega), (by show (0 : Int) < 18446744073709551616; omega)⟩, hb⟩
theorem exP_pg {c : Int} {L : List Int} (hc : 0 ≤ c) (h : ∀ x, x ∈ L → 0 ≤ x ∧ x < 4294967296) (hl : L.length ≤ 9223372036854775807) : Pg (exP c L) ∧ 0 ≤ custP (exP c L) := ⟨⟨rfl, ⟨L, rfl, h⟩, (by show (L.map _).length ≤ _; simpa using hl)⟩, hc⟩
theorem nn_ex (P : List (Int × List Int)) : NnL (P.map fun y => exP y.1 y.2) := fun d hd h => by
 obtain ⟨y, _, rfl⟩ := List.mem_map.1 hd
 cases h
theorem pay_ex (O : List (Int × Int × Int)) (P : List (Int × List Int)) (h : ∀ y, y ∈ O → 0 ≤ y.2.1 ∧ y.2.1 < 18446744073709551616) (h2 : ∀ y, y ∈ P → 0 ≤ y.1 ∧ (∀ x, x ∈ y.2 → 0 ≤ x ∧ x < 4294967296) ∧ y.2.length ≤ 100) (h3 : O.length ≤ 100 ∧ P.length ≤ 100) :
  Pay (O.map fun y => exO y.1 y.2.1 y.2.2) (P.map fun y => exP y.1 y.2) [] :=
 ⟨fun d hd => (by obtain ⟨y, hy, rfl⟩ := List.mem_map.1 hd; exact exO_og (h y hy)), fun d hd => (by obtain ⟨y, hy, rfl⟩ := List.mem_map.1 hd; exact exP_pg (h2 y hy).1 (h2 y hy).2.1 (by have := (h2 y hy).2.2; omega)), fun d hd => (by cases hd), (by simp; omega), (by simp; omega), (by simp)⟩
theorem ris1 {g : D → Bool} {lt : D → D → Bool} {x : D} (h : g x = true) : risF g lt [x] = true := by simp [risF, risG, h]
theorem goodPx {c : Int} {L : List Int} (h : L.length ≤ 50) (h2 : Good c (L.map (D.int .u32))) : goodP (exP c L) = true := goodP_of (by show (L.map _).length ≤ 50; simpa using h) h2
theorem xg_ex (f : List D) (hf : ∀ d, d ∈ f → Fg d) (hl : f.length ≤ 100) (O : List (Int × Int × Int)) (P : List (Int × List Int)) (h : Pay (O.map fun y => exO y.1 y.2.1 y.2.2) (P.map fun y => exP y.1 y.2) []) : Xg (exX f (O.map fun y => exO y.1 y.2.1 y.2.2) (P.map fun y => exP y.1 y.2)) :=
 ⟨rfl, hf, fun d hd => (by cases hd), fun d hd => (by cases hd), (by show f.length ≤ _; omega), (by show 0 ≤ _; omega), (by show 0 ≤ _; omega), h⟩
theorem xC_ex {f o p : List D} (h : f.length ≤ 100) (h2 : risF goodF ltF f = true) (h3 : payC o p [] = 0) : xC (exX f o p) = 0 := by
 show (if 100 < f.length ∨ 100 < ([] : List D).length ∨ 100 < ([] : List D).length then (4 : Int) else if risF goodF ltF f = true ∧ risF goodY ltY [] = true ∧ risF goodC ltC [] = true then payC o p [] else 8) = 0
 rw [if_neg (by simp; omega), if_pos ⟨h2, rfl, rfl⟩, h3]
def exF : D := .agg [.bool true, .bool true, .int .u8 4, .int .u64 0, .int .u64 167772160, .int .i64 8, .int .u32 7]
theorem exF_fg : Fg exF := by constructor <;> first | rfl | (constructor <;> decide) | decide
theorem gives1 : Cl ty tab 35 [payD false true true [exO 7 150994944 8, exO 7 167772160 8, exO 8 167772160 8] [] [], exX [exF] [exO 7 167837696 16] [], payD false true true [exO 7 150994944 8, exO 7 167837696 16, exO 8 167772160 8] [] []] = some [.bool true] := by
 have p0 := pay_ex [(7, 150994944, 8), (7, 167772160, 8), (8, 167772160, 8)] [] (by decide) (fun y h => by cases h) (by decide)
 have p1 := pay_ex [(7, 167837696, 16)] [] (by decide) (fun y h => by cases h) (by decide)
 have p2 := pay_ex [(7, 150994944, 8), (7, 167837696, 16), (8, 167772160, 8)] [] (by decide) (fun y h => by cases h) (by decide)
 have hx := xg_ex [exF] (fun d hd => by obtain rfl := List.mem_singleton.1 hd; exact exF_fg) (by decide) _ _ p1
 have c0 : payC [exO 7 150994944 8, exO 7 167772160 8, exO 8 167772160 8] [] [] = 0 := payC_of (by decide) (by decide) rfl rfl
 have c1 : payC [exO 7 167837696 16] [] [] = 0 := payC_of (by decide) (by decide) rfl rfl
 have c2 : payC [exO 7 150994944 8, exO 7 167837696 16, exO 8 167772160 8] [] [] = 0 := payC_of (by decide) (by decide) rfl rfl
 refine gives_ok false true true _ _ _ _ false true true _ _ _ p0 hx (fun h => by cases h) (fun _ => rfl) (fun _ => rfl) (fun d h => by cases h) (fun d h => by cases h) c0 (xC_ex (by decide) (by decide) c1) p2 c2 ?_ (by simp [mP, mrg]; rfl) (by simp [mK, mrg]; rfl)
 have e : ([exO 7 150994944 8, exO 7 167772160 8, exO 8 167772160 8].filter fun d => !goneO (exX [exF] [exO 7 167837696 16] []) d) = [exO 7 150994944 8, exO 8 167772160 8] := by kernel_rfl
 refine (congrArg (fun z => mO z [exO 7 167837696 16]) e).trans ?_
 show mrg ordO fst2 [exO 7 150994944 8, exO 8 167772160 8] [exO 7 167837696 16] = _
 rw [mrg_cc, if_pos (by decide), mrg_cc, if_neg (by decide), if_pos (by decide)]
 simp [mrg]
theorem gives2 (L L' L'' : List Int) (h : (∀ x, x ∈ L → 0 ≤ x ∧ x < 4294967296) ∧ L.length ≤ 50) (h' : (∀ x, x ∈ L' → 0 ≤ x ∧ x < 4294967296) ∧ L'.length ≤ 50) (h'' : (∀ x, x ∈ L'' → 0 ≤ x ∧ x < 4294967296) ∧ L''.length ≤ 50) (g : Good 5 (L.map (D.int .u32))) (g' : Good 5 (L'.map (D.int .u32))) (g'' : Good 5 (L''.map (D.int .u32)))
  (e : unionL (L ++ L') = L'') (e2 : (unionK (L ++ L')).isEmpty = false) : Cl ty tab 35 [payD true false true [] [exP 5 L] [], exX [] [] [exP 5 L'], payD true false true [] [exP 5 L''] []] = some [.bool true] := by
 have pa : ∀ L : List Int, (∀ x, x ∈ L → 0 ≤ x ∧ x < 4294967296) ∧ L.length ≤ 50 → Pay [] [exP 5 L] [] := fun L h => pay_ex [] [(5, L)] (fun y h => by cases h) (fun y hy => by obtain rfl := List.mem_singleton.1 hy; exact ⟨(by show (0 : Int) ≤ 5; omega), h.1, (by show L.length ≤ 100; have := h.2; omega)⟩) (by simp)
 have cc : ∀ L : List Int, L.length ≤ 50 → Good 5 (L.map (D.int .u32)) → payC [] [exP 5 L] [] = 0 := fun L h g => payC_of ⟨by simp, by simp, by simp, by simp [longP, exP, h]⟩ rfl (ris1 (goodPx h g)) rfl
 have hx := xg_ex [] (fun d hd => by cases hd) (by decide) [] [(5, L')] (pa L' h')
 refine gives_ok true false true _ _ _ _ true false true _ _ _ (pa L h) hx (fun _ => rfl) (fun h => by cases h) (fun _ => rfl) (nn_ex [(5, L)]) (nn_ex [(5, L')]) (cc L h.2 g) (xC_ex (by decide) rfl (cc L' h'.2 g')) (pa L'' h'') (cc L'' h''.2 g'') (by simp [mO, mrg]; rfl) ?_ (by simp [mK, mrg]; rfl)
 show mrg ordP unD [exP 5 L] [exP 5 L'] = [exP 5 L'']
 rw [mrg_cc, show ordP (exP 5 L) (exP 5 L') = 0 from rfl]
 have mi : ∀ L : List Int, (L.map (D.int .u32)).map D.i = L := fun L => by rw [List.map_map]; exact (List.map_congr_left fun x _ => rfl).trans (List.map_id _)
 have eu : unD (exP 5 L) (exP 5 L') = exP 5 L'' := by
  show D.agg [.int .u32 5, .sl 51 (unionK ((L.map (D.int .u32)).map D.i ++ (L'.map (D.int .u32)).map D.i)).isEmpty ((unionL ((L.map (D.int .u32)).map D.i ++ (L'.map (D.int .u32)).map D.i)).map (D.int .u32))] = _
  rw [mi, mi, e, e2]; rfl
 simp [eu, mrg]
theorem srt {L : List Int} (h : L.Pairwise fun a b => a ≤ b) : L.mergeSort (fun x y => decide (x ≤ y)) = L := List.mergeSort_of_pairwise (h.imp fun h => decide_eq_true h)
theorem bind_step {o : Option (List D)} {f : List D → Option (List D)} {r : Option (List D)} {x : List D} (h : o = some x) (h2 : f x = r) : o.bind f = r := by rw [h]; exact h2
theorem alive_is : Cl ty tab 24 [] = some [.bool true] := by
 refine s_gatepathlaw43_alive 0 ?_
 have n1 := fun a b c d e => s_gatepathlaw43_net 0 a b c d e rfl
 have n2 := fun a L => s_gatepathlaw43_at 0 a false L rfl
 have n3 := s_gatepathlaw43_example 0 (r := [exX [exF] [exO 7 167837696 16] []]) (by unfold gatepathlaw43_example; rw [n1, n1]; rfl)
 have g1 := gives1
 have g2 := gives2 [1, 2] [2, 3] [1, 2, 3] (by decide) (by decide) (by decide) (by decide) (by decide) (by decide) (srt (L := [1, 2, 3]) (by decide)) rfl
 have g3 := gives2 [0] [2] [2] (by decide) (by decide) (by decide) (by decide) (by decide) (by decide) (srt (L := [2]) (by decide)) rfl
 unfold gatepathlaw43_alive
 simp only [n1, n2, n3, Option.bind_some]
 exact bind_step g2 (bind_step g3 (bind_step g1 rfl))
end Go.Proofs.YtapfhcnigmighaaGreat.Own
namespace Go.Proofs.YtapfhcnigmighaaGreat.Own
open Go Go.Proofs.YtapfhcnigmighaaGreat.GD
def eqO (x d : D) : Bool := eqCells (etaCells ks1 d 0) (etaCells ks1 x 0)
def eqK (x d : D) : Bool := eqCells (kKsE d 0) (kKsE x 0)
theorem any_loop {F : List D → (List D → Option (List D)) → Option (List D)} (l : List D) (Q : D → Bool) (enc : Nat → List D)
  (step : ∀ i (hi : i < l.length), ∀ ag, ag (enc (i + 1)) = some [.bool ((l.drop (i + 1)).any Q)] → F (enc i) ag = some [.bool (Q l[i] || (l.drop (i + 1)).any Q)]) (fin : ∀ ag, F (enc l.length) ag = some [.bool false]) (k : Nat) (hk : l.length < k) : iter k F (enc 0) = some [.bool (l.any Q)] := by
 have := iter_ix (R := List D) (F := F) l.length enc (fun i => some [.bool ((l.drop i).any Q)]) (fun i hi ag ha => ?_) (fun ag => ?_) k hk 0 (by omega)
 · simpa using this
 · rw [List.drop_eq_getElem_cons hi, List.any_cons]
   exact step i hi ag ha
 · rw [List.drop_length]; exact fin ag
theorem hasO_ok (n : Bool) (l : List D) (x : D) (hx : Og x) (hl : l.length ≤ 60000) : Cl ty tab 25 [.sl 58 n l, x] = some [.bool (l.any (eqO x))] := by
 have := s_gatepathref34_HasOrigin 60001 n l x (r := [.bool (l.any (eqO x))]) ?_
 · rwa [hx.eta] at this
 unfold gatepathref34_HasOrigin
 have := any_loop (F := gatepathref34_HasOrigin.b0 (Cl ty tab) 60001 l) l (eqO x) (fun i => [.int .i64 i, .pv (etaCells ks1 x 0)]) (fun i hi ag ha => ?_) (fun ag => ?_) 60001 (by omega)
 · exact this
 · unfold gatepathref34_HasOrigin.b0
   rw [show ((i + 1 : Nat) : Int) = (i : Int) + 1 by omega] at ha
   have he : eqO x l[i] = eqCells (etaCells ks1 l[i] 0) (etaCells ks1 x 0) := rfl
   cases hc : eqO x l[i]
   · rw [hc] at he
     simp (disch := omega) only [gds, getD_get, etaList_eta, ← he]
     exact ha
   · rw [hc] at he
     simp (disch := omega) only [gds, getD_get, etaList_eta, ← he]
 · unfold gatepathref34_HasOrigin.b0
   simp (disch := omega) only [gds]
theorem hasK_ok (n : Bool) (l : List D) (x : D) (hx : Kg x) (hl : l.length ≤ 60000) : Cl ty tab 26 [.sl 64 n l, x] = some [.bool (l.any (eqK x))] := by
 have := s_gatepathref34_HasKey 60001 n l x (r := [.bool (l.any (eqK x))]) ?_
 · have e := hx.eta
   rwa [show D.agg (etaCells ks2 x 0) = x from e] at this
 unfold gatepathref34_HasKey
 have := any_loop (F := gatepathref34_HasKey.b0 (Cl ty tab) 60001 l) l (eqK x) (fun i => [.int .i64 i, .pv (kKsE x 0)]) (fun i hi ag ha => ?_) (fun ag => ?_) 60001 (by omega)
 · exact this
 · unfold gatepathref34_HasKey.b0
   rw [show ((i + 1 : Nat) : Int) = (i : Int) + 1 by omega] at ha
   have he : eqK x l[i] = eqCells (kKsE l[i] 0) (kKsE x 0) := rfl
   generalize hg : eqCells (kKsE l[i] 0) (kKsE x 0) = c at he
   have hg2 : ∀ a b : List D, a = kKsE l[i] 0 → b = kKsE x 0 → eqCells a b = c := fun a b h1 h2 => by rw [h1, h2]; exact hg
   rw [he]
   cases c
   · simp (disch := omega) only [gds, getD_get, etaList_eta, hg]
     exact ha
   · simp (disch := omega) only [gds, getD_get, etaList_eta, hg]
 · unfold gatepathref34_HasKey.b0
   simp (disch := omega) only [gds]
end Go.Proofs.YtapfhcnigmighaaGreat.Own
namespace Go.Proofs.YtapfhcnigmighaaGreat.Own
open Go Go.Proofs.YtapfhcnigmighaaGreat.GD
theorem any_filter_at {f Q : D → Bool} {c : Bool} : ∀ {l : List D}, (∀ a, a ∈ l → Q a = true → f a = c) → (l.filter f).any Q = (l.any Q && c)
 | [], _ => by simp
 | a :: l, h => by
  have ih := any_filter_at (l := l) (fun b hb => h b (List.mem_cons_of_mem _ hb))
  have ha := h a (List.mem_cons_self ..)
  rw [List.filter_cons, List.any_cons]
  cases hf : f a <;> cases hq : Q a <;> simp_all
theorem eqO_iff {x d : D} (hx : Og x) (hd : Og d) : eqO x d = true ↔ d = x := eqCells_eta (ks := oKs) (by decide) hd.fit hx.fit
theorem eqK_iff {x d : D} (hx : Kg x) (hd : Kg d) : eqK x d = true ↔ d = x := eqCells_eta (ks := kKs) (by decide) hd.fit hx.fit
theorem ordO_eq {a b : D} (ha : Og a) (hb : Og b) (h : ordO a b = 0) : a = b := by
 have h := (cmpL_zero (a := oNums a) (b := oNums b) rfl).1 h
 simp only [oNums, List.cons.injEq] at h
 obtain ⟨h0, h1, h2, h3, h4, h5, _⟩ := h
 rw [← ha.eta, ← hb.eta]
 show D.agg [.int .u32 (a.cell 0).i, .int .u8 (a.cell 1).i, .int .u64 (a.cell 2).i, .int .u64 (a.cell 3).i, .int .i64 (a.cell 4).i, .int .i64 (a.cell 5).i] = D.agg [.int .u32 (b.cell 0).i, .int .u8 (b.cell 1).i, .int .u64 (b.cell 2).i, .int .u64 (b.cell 3).i, .int .i64 (b.cell 4).i, .int .i64 (b.cell 5).i]
 rw [h0, h1, h2, h3, h4, h5]
theorem ordK_eq {a b : D} (ha : Kg a) (hb : Kg b) (h : ordK a b = 0) : a = b := by
 have h := (cmpL_zero (a := (a.cell 0).i :: (rootN a 1 ++ [(a.cell 17).i])) (b := (b.cell 0).i :: (rootN b 1 ++ [(b.cell 17).i])) (by simp [rootN])).1 h
 obtain ⟨h0, h1⟩ := List.cons.inj h
 obtain ⟨h2, h3⟩ := List.append_inj h1 (by rw [rootN_len, rootN_len])
 have h3 := (List.cons.inj h3).1
 rw [← ha.eta, ← hb.eta]
 show D.agg (.int .u32 (a.cell 0).i :: ((rootN a 1).map (D.int .u8) ++ [.int .i64 (a.cell 17).i])) = D.agg (.int .u32 (b.cell 0).i :: ((rootN b 1).map (D.int .u8) ++ [.int .i64 (b.cell 17).i]))
 rw [h0, h2, h3]
theorem memO (x d : D) (o o' : List D) (hd : Og d) (ho : ∀ a, a ∈ o → Og a) (ho' : ∀ a, a ∈ o' → Og a) : (mO (o.filter fun a => !goneO x a) o').any (eqO d) = ((o.any (eqO d) && !goneO x d) || o'.any (eqO d)) := by
 rw [mrg_any, any_filter_at (c := !goneO x d)]
 · intro a ha hq
   rw [(eqO_iff hd (ho a ha)).1 hq]
 · intro a ha b hb h
   have := ordO_eq (ho a (List.mem_filter.1 ha).1) (ho' b hb) h
   subst this
   simp [fst2]
theorem memK (x d : D) (o o' : List D) (hd : Kg d) (ho : ∀ a, a ∈ o → Kg a) (ho' : ∀ a, a ∈ o' → Kg a) : (mK (o.filter fun a => !goneK x a) o').any (eqK d) = ((o.any (eqK d) && !goneK x d) || o'.any (eqK d)) := by
 rw [mrg_any, any_filter_at (c := !goneK x d)]
 · intro a ha hq
   rw [(eqK_iff hd (ho a ha)).1 hq]
 · intro a ha b hb h
   have := ordK_eq (ho a (List.mem_filter.1 ha).1) (ho' b hb) h
   subst this
   simp [fst2]
end Go.Proofs.YtapfhcnigmighaaGreat.Own
namespace Go.Proofs.YtapfhcnigmighaaGreat.Own
open Go Go.Proofs.YtapfhcnigmighaaGreat.GD
theorem xg_nil : Xg nilRul := xg_rul _ _ _ _ _ _ jn_nil sh_nil.pay
theorem nn_mrg {p p' : List D} (h : NnL p) (h' : NnL p') (g : ∀ x, x ∈ p → ∀ y, y ∈ p' → Nn (unD x y)) : NnL (mP p p') := mrg_all p p' h h' fun x hx y hy => (g x hx y hy).nb
end Go.Proofs.YtapfhcnigmighaaGreat.Own
namespace Go.Proofs.YtapfhcnigmighaaGreat.Own
open Go Go.Proofs.YtapfhcnigmighaaGreat.GD
theorem comm_set (key : D → List Int) (n : Nat) (hk : ∀ d, (key d).length = n) {a b : List D} (ha : Srt key a) (hb : Srt key b) (hi : ∀ x y, x ∈ a → y ∈ b → key x = key y → x = y) : mrg (byK key) fst2 a b = mrg (byK key) fst2 b a := by
 obtain ⟨s1, m1⟩ := mrg_set key n hk ha hb hi
 obtain ⟨s2, m2⟩ := mrg_set key n hk hb ha fun x y hx hy e => (hi y x hy hx e.symm).symm
 exact srt_ext key n hk s1 s2 fun d => (m1 d).trans (Or.comm.trans (m2 d).symm)
theorem comm_key (key : D → List Int) (n : Nat) (hk : ∀ d, (key d).length = n) (e : D → D → D) (he : ∀ x y, key x = key y → key (e x y) = key x) (hc : ∀ x y, key x = key y → e x y = e y x) {a b : List D} (ha : Srt key a) (hb : Srt key b) : mrg (byK key) e a b = mrg (byK key) e b a := by
 obtain ⟨s1, m1⟩ := mrg_spec key n hk e he _ a b (Nat.le_refl _) ha hb
 obtain ⟨s2, m2⟩ := mrg_spec key n hk e he _ b a (Nat.le_refl _) hb ha
 have sw : ∀ {a b : List D} {d : D}, (∃ x, x ∈ a ∧ ∃ y, y ∈ b ∧ key x = key y ∧ d = e x y) → ∃ x, x ∈ b ∧ ∃ y, y ∈ a ∧ key x = key y ∧ d = e x y := fun ⟨x, hx, y, hy, h, h2⟩ => ⟨y, hy, x, hx, h.symm, by rw [h2, hc x y h]⟩
 refine srt_ext key n hk s1 s2 fun d => (m1 d).trans (Iff.trans ⟨?_, ?_⟩ (m2 d).symm)
 · rintro (h | h | h)
   · exact .inr (.inl h)
   · exact .inl h
   · exact .inr (.inr (sw h))
 · rintro (h | h | h)
   · exact .inr (.inl h)
   · exact .inl h
   · exact .inr (.inr (sw h))
theorem payC_filter {o p q : List D} (h : payC o p q = 0) (f g k : D → Bool) : payC (o.filter f) (p.filter g) (q.filter k) = 0 := by
 obtain ⟨l1, l2, l3, l4⟩ := payC_zero h
 obtain ⟨r1, r2, r3⟩ := payC_ris h
 refine payC_of ⟨Nat.le_trans (List.length_filter_le ..) l1, Nat.le_trans (List.length_filter_le ..) l2, Nat.le_trans (List.length_filter_le ..) l3, ?_⟩ (risO.2 ⟨fun d hd => (risO.1 r1).1 d (List.mem_filter.1 hd).1, List.Pairwise.filter _ (risO.1 r1).2⟩) (risP.2 ⟨fun d hd => (risP.1 r2).1 d (List.mem_filter.1 hd).1, List.Pairwise.filter _ (risP.1 r2).2⟩) (risK.2 ⟨fun d hd => (risK.1 r3).1 d (List.mem_filter.1 hd).1, List.Pairwise.filter _ (risK.1 r3).2⟩)
 unfold longP at l4 ⊢
 rw [List.any_eq_false] at l4 ⊢
 exact fun d hd => l4 d (List.mem_filter.1 hd).1
theorem pay_filter {o p q : List D} (h : Pay o p q) (f g k : D → Bool) : Pay (o.filter f) (p.filter g) (q.filter k) :=
 ⟨fun d hd => h.ho d (List.mem_filter.1 hd).1, fun d hd => h.hp d (List.mem_filter.1 hd).1, fun d hd => h.hq d (List.mem_filter.1 hd).1, Nat.le_trans (List.length_filter_le ..) h.no, Nat.le_trans (List.length_filter_le ..) h.np, Nat.le_trans (List.length_filter_le ..) h.nq⟩
theorem any_or {l a b : List D} {f : D → Bool} (h : ∀ d, d ∈ l ↔ d ∈ a ∨ d ∈ b) : l.any f = (a.any f || b.any f) := by
 rw [Bool.eq_iff_iff, Bool.or_eq_true, List.any_eq_true, List.any_eq_true, List.any_eq_true]
 constructor
 · rintro ⟨d, hd, e⟩
   rcases (h d).1 hd with hd | hd
   · exact .inl ⟨d, hd, e⟩
   · exact .inr ⟨d, hd, e⟩
 · rintro (⟨d, hd, e⟩ | ⟨d, hd, e⟩)
   · exact ⟨d, (h d).2 (.inl hd), e⟩
   · exact ⟨d, (h d).2 (.inr hd), e⟩
theorem all_there {R : Type} {F : List D → (List D → Option R) → Option R} (l : List D) (enc : Nat → List D) (V : Option R) (step : ∀ i (hi : i < l.length), ∀ ag, F (enc i) ag = ag (enc (i + 1))) (fin : ∀ ag, F (enc l.length) ag = V) (k : Nat) (hk : l.length < k) : iter k F (enc 0) = V :=
 iter_ix l.length enc (fun _ => V) (fun i hi ag ha => (step i hi ag).trans ha) fin k hk 0 (by omega)
section
variable (k : Nat) (hk : 60000 < k) (no mo to : Bool) (O P K adds : List D) (n : Nat) (hn : n < 2) (n' m' t' : Bool) (o' p' q' : List D) (hadd : adds.getD n .undef = payD n' m' t' o' p' q') (lO : O.length ≤ 60000) (lK : K.length ≤ 60000) (lo : o'.length ≤ 60000) (lq : q'.length ≤ 60000)
 (ho : ∀ d, d ∈ o' → Og d ∧ O.any (eqO d) = true) (hq : ∀ d, d ∈ q' → Kg d ∧ K.any (eqK d) = true) (ag : List D → Option (List D)) (vs : List D) (hvs : vs.getD 0 .undef = .int .i64 n)
include hk hn hadd lK lq hq hvs
theorem ord2 : iter k (gatepathlaw43_LocalOrder.b2 (Cl ty tab) k ag vs) [.int .i64 0, .pv [.sl 58 no O, .sl 84 mo P, .sl 64 to K], .ov 31 false adds] = ag [.int .i64 ((n + 1 : Nat) : Int), .pv [.sl 58 no O, .sl 84 mo P, .sl 64 to K], .ov 31 false adds] := by
 refine all_there q' (fun i => [.int .i64 i, .pv [.sl 58 no O, .sl 84 mo P, .sl 64 to K], .ov 31 false adds]) _ (fun i hi ag' => ?_) (fun ag' => ?_) k (by omega)
 · unfold gatepathlaw43_LocalOrder.b2
   rw [show ((i + 1 : Nat) : Int) = (i : Int) + 1 by omega]
   obtain ⟨g1, g2⟩ := hq _ (List.getElem_mem hi)
   have c := hasK_ok to K q'[i] g1 lK
   have e := g1.eta
   rw [g2] at c
   clear hq
   simp (disch := omega) only [gds, hvs, hadd, getD_get, e, c]
 · unfold gatepathlaw43_LocalOrder.b2
   rw [show ((n + 1 : Nat) : Int) = (n : Int) + 1 by omega]
   clear hq
   simp (disch := omega) only [gds, hvs, hadd]
include lO lo ho
theorem ord1 : iter k (gatepathlaw43_LocalOrder.b1 (Cl ty tab) k ag vs) [.int .i64 0, .pv [.sl 58 no O, .sl 84 mo P, .sl 64 to K], .ov 31 false adds] = ag [.int .i64 ((n + 1 : Nat) : Int), .pv [.sl 58 no O, .sl 84 mo P, .sl 64 to K], .ov 31 false adds] := by
 refine all_there o' (fun i => [.int .i64 i, .pv [.sl 58 no O, .sl 84 mo P, .sl 64 to K], .ov 31 false adds]) _ (fun i hi ag' => ?_) (fun ag' => ?_) k (by omega)
 · unfold gatepathlaw43_LocalOrder.b1
   rw [show ((i + 1 : Nat) : Int) = (i : Int) + 1 by omega]
   obtain ⟨g1, g2⟩ := ho _ (List.getElem_mem hi)
   have c := hasO_ok no O o'[i] g1 lO
   have e := g1.eta
   rw [g2] at c
   clear hq ho
   simp (disch := omega) only [gds, hvs, hadd, getD_get, e, c]
 · unfold gatepathlaw43_LocalOrder.b1
   have := ord2 k hk no mo to O P K adds n hn n' m' t' o' p' q' hadd lK lq hq ag vs hvs
   clear hq ho
   simp (disch := omega) only [gds, hvs, hadd]
   exact this
end
section
variable (x y : D) (hx : Xg x) (hy : Xg y) (zx : xC x = 0) (zy : xC y = 0)
include hx hy zx zy
theorem xC_srt : (Srt numsF (x.cell 0).els ∧ Srt numsY (x.cell 1).els ∧ Srt keyC (x.cell 2).els) ∧ Srt numsF (y.cell 0).els ∧ Srt numsY (y.cell 1).els ∧ Srt keyC (y.cell 2).els := by
 have key : ∀ {x : D}, xC x = 0 → Srt numsF (x.cell 0).els ∧ Srt numsY (x.cell 1).els ∧ Srt keyC (x.cell 2).els := fun {x} h => by
  unfold xC at h
  split at h
  · cases h
  · split at h
    · rename_i c; exact ⟨(risFF.1 c.1).2, (risY.1 c.2.1).2, (risC.1 c.2.2).2⟩
    · cases h
 have _ := hx; have _ := hy
 exact ⟨key zx, key zy⟩
theorem commX : mF (x.cell 0).els (y.cell 0).els = mF (y.cell 0).els (x.cell 0).els ∧ mY (x.cell 1).els (y.cell 1).els = mY (y.cell 1).els (x.cell 1).els ∧ mC (x.cell 2).els (y.cell 2).els = mC (y.cell 2).els (x.cell 2).els ∧
  mO (x.cell 3).els (y.cell 3).els = mO (y.cell 3).els (x.cell 3).els ∧ mP (x.cell 4).els (y.cell 4).els = mP (y.cell 4).els (x.cell 4).els ∧ mK (x.cell 5).els (y.cell 5).els = mK (y.cell 5).els (x.cell 5).els := by
 obtain ⟨⟨a1, a2, a3⟩, b1, b2, b3⟩ := xC_srt x y hx hy zx zy
 obtain ⟨a4, a5, a6⟩ := payC_ris (xC_zero zx).2.2.2
 obtain ⟨b4, b5, b6⟩ := payC_ris (xC_zero zy).2.2.2
 simp only [mF, mY, mC, mO, mP, mK, ordP_key, ordC_key]
 exact ⟨comm_set numsF 7 keyF_len a1 b1 fun u v hu hv e => keyF_inj (hx.hf u hu) (hy.hf v hv) e, comm_set numsY 20 keyY_len a2 b2 fun u v hu hv e => keyY_inj (hx.hy u hu) (hy.hy v hv) e,
  comm_set keyC 1 keyC_len a3 b3 fun u v hu hv e => keyC_inj (hx.hc u hu) (hy.hc v hv) e, comm_set keyO 6 keyO_len (risO.1 a4).2 (risO.1 b4).2 fun u v hu hv e => keyO_inj (hx.pay.ho u hu) (hy.pay.ho v hv) e,
  comm_key keyP 1 keyP_len unD keyP_un (fun u v e => unD_comm (List.cons.inj e).1) (risP.1 a5).2 (risP.1 b5).2, comm_set keyK 18 keyK_len (risK.1 a6).2 (risK.1 b6).2 fun u v hu hv e => keyK_inj (hx.pay.hq u hu) (hy.pay.hq v hv) e⟩
theorem goneX (a b c n m t : Bool) (o p q : List D) (d : D) : goneO (rulD a b c n m t (mF (x.cell 0).els (y.cell 0).els) (mY (x.cell 1).els (y.cell 1).els) (mC (x.cell 2).els (y.cell 2).els) o p q) d = (goneO x d || goneO y d) ∧
  goneK (rulD a b c n m t (mF (x.cell 0).els (y.cell 0).els) (mY (x.cell 1).els (y.cell 1).els) (mC (x.cell 2).els (y.cell 2).els) o p q) d = (goneK x d || goneK y d) ∧
  goneP (rulD a b c n m t (mF (x.cell 0).els (y.cell 0).els) (mY (x.cell 1).els (y.cell 1).els) (mC (x.cell 2).els (y.cell 2).els) o p q) d = (goneP x d || goneP y d) := by
 obtain ⟨⟨a1, a2, a3⟩, b1, b2, b3⟩ := xC_srt x y hx hy zx zy
 refine ⟨any_or (mrg_set numsF 7 keyF_len a1 b1 fun u v hu hv e => keyF_inj (hx.hf u hu) (hy.hf v hv) e).2, any_or (mrg_set numsY 20 keyY_len a2 b2 fun u v hu hv e => keyY_inj (hx.hy u hu) (hy.hy v hv) e).2, ?_⟩
 have m := (mrg_set keyC 1 keyC_len a3 b3 fun u v hu hv e => keyC_inj (hx.hc u hu) (hy.hc v hv) e).2
 rw [← ordC_key] at m
 show decide (0 ≤ idx (d.cell 0).i (mC (x.cell 2).els (y.cell 2).els) 0) = (decide (0 ≤ idx (d.cell 0).i (x.cell 2).els 0) || decide (0 ≤ idx (d.cell 0).i (y.cell 2).els 0))
 rw [Bool.eq_iff_iff, Bool.or_eq_true, decide_eq_true_eq, decide_eq_true_eq, decide_eq_true_eq, idx_pos, idx_pos, idx_pos]
 constructor
 · rintro ⟨u, hu, e⟩
   rcases (m u).1 hu with hu | hu
   · exact .inl ⟨u, hu, e⟩
   · exact .inr ⟨u, hu, e⟩
 · rintro (⟨u, hu, e⟩ | ⟨u, hu, e⟩)
   · exact ⟨u, (m u).2 (.inl hu), e⟩
   · exact ⟨u, (m u).2 (.inr hu), e⟩
end
theorem filt2 {l : List D} {f g h : D → Bool} (e : ∀ d, h d = (f d || g d)) : (l.filter fun d => !h d) = (l.filter fun d => !f d).filter fun d => !g d := by
 rw [List.filter_filter]
 congr 1
 funext d
 rw [e]
 cases f d <;> cases g d <;> rfl
end Go.Proofs.YtapfhcnigmighaaGreat.Own
namespace Go.Proofs.YtapfhcnigmighaaGreat.Own
open Go Go.Proofs.YtapfhcnigmighaaGreat.GD
theorem rul_eta (a b c n m t : Bool) (F Y C o p q : List D) : D.agg (etaCells ks0 (rulD a b c n m t F Y C o p q) 0) = rulD a b c n m t F Y C o p q := rfl
section
variable (k : Nat) (hk : 60000 < k) (n m t : Bool) (o p q : List D) (x y : D) (hp : Pay o p q) (hx : Xg x) (hy : Xg y) (hn : n = true → o = []) (hm : m = true → p = []) (ht : t = true → q = []) (hN : NnL p) (hNx : NnL (x.cell 4).els) (hNy : NnL (y.cell 4).els)
include hk hp hx hy hn hm ht hN hNx hNy
theorem law8_cl : Cl ty tab 8 [payD n m t o p q, x, y] = some [.bool true] := by
 have ex : D.agg (etaCells ks0 x 0) = x := hx.eta
 have ey : D.agg (etaCells ks0 y 0) = y := hy.eta
 have key := s_gatepathlaw43_LocalOrder k n o m p t q x y (r := [.bool true]) ?_
 · rwa [show D.agg (etaCells ks0 x 0) = x from ex, show D.agg (etaCells ks0 y 0) = y from ey] at key
 unfold gatepathlaw43_LocalOrder
 rw [ex, ey, alive_is]
 obtain ⟨b, hb, hbs⟩ := Great34_ok n m t o p q hp
 cases b
 case true => simp (disch := omega) only [gds, hb]
 obtain ⟨b, hbx, hsx⟩ := Great43_ok x hx
 cases b
 case true => simp (disch := omega) only [gds, hb, hbx]
 obtain ⟨b, hby, hsy⟩ := Great43_ok y hy
 cases b
 case true => simp (disch := omega) only [gds, hb, hbx, hby]
 have xn := xg_nil
 obtain ⟨r, hs0, hs0'⟩ := same43_ok nilRul nilRul xn xn
 obtain rfl : r = true := hs0'.2 ⟨rfl, rfl, rfl, rfl, rfl, rfl⟩
 have en := rul_eta true true true true true true [] [] [] [] [] []
 have fail : ∀ e1 e2 : Int, e1 ≠ 0 → e2 ≠ 0 → Cl ty tab 12 [.sl 33 false [x, y]] = some [nilRul, .int .i64 e1] → Cl ty tab 12 [.sl 33 false [y, x]] = some [nilRul, .int .i64 e2] → gatepathlaw43_LocalOrder (Cl ty tab) k n o m p t q x y = some [.bool true] := fun e1 e2 h1 h2 j1 j2 => by
  unfold gatepathlaw43_LocalOrder
  rw [ex, ey, alive_is]
  have b1 : decide (e1 = 0) = false := decide_eq_false h1
  have b2 : decide (e2 = 0) = false := decide_eq_false h2
  have b3 : (e1 != 0) = true := by simp [h1]
  simp (disch := omega) only [gds, hb, hbx, hby, j1, j2, b1, b2, b3, hs0, en, h1, h2, ne_eq, not_false_eq_true, beq_self_eq_true]
 rcases join2_ok x y hx hNx hy hNy with ⟨e1, he1, hz, j1⟩ | ⟨zx, zy, m1, j1⟩
 · rcases join2_ok y x hy hNy hx hNx with ⟨e2, he2, _, j2⟩ | ⟨zy, zx, _⟩
   · have := fail e1 e2 he1 he2 j1 j2
     unfold gatepathlaw43_LocalOrder at this
     rwa [ex, ey, alive_is] at this
   · exact absurd ⟨zx, zy⟩ hz
 rcases join2_ok y x hy hNy hx hNx with ⟨e2, he2, hz, _⟩ | ⟨_, _, m2, j2⟩
 · exact absurd ⟨zy, zx⟩ hz
 obtain ⟨q1, q2, q3, q4, q5, q6⟩ := commX x y hx hy zx zy
 rw [show jR m2 y x = jR m2 x y by unfold jR; rw [q1, q2, q3, q4, q5, q6]] at j2
 have sx := sh_of hx.pay (xC_zero zx).2.2.2 hNx
 have sy := sh_of hy.pay (xC_zero zy).2.2.2 hNy
 have gx : ∀ d, goneO (jR m1 x y) d = (goneO x d || goneO y d) ∧ goneK (jR m1 x y) d = (goneK x d || goneK y d) ∧ goneP (jR m1 x y) d = (goneP x d || goneP y d) := goneX x y hx hy zx zy _ _ _ _ _ _ _ _ _
 have jn := jn_mrg (jn_of hx zx) (jn_of hy zy) (by have := xC_zero zx; have := xC_zero zy; omega) (by have := xC_zero zx; have := xC_zero zy; omega) (by have := xC_zero zx; have := xC_zero zy; omega)
 have pj := pay_mrg _ _ _ _ _ _ sx sy
 have hX : Xg (jR m1 x y) := xg_rul false false false false m1 false jn pj
 have hY : Xg (jR m2 x y) := xg_rul false false false false m2 false jn pj
 have hNX : NnL (mP (x.cell 4).els (y.cell 4).els) := nn_mrg sx.nn sy.nn fun u hu v hv => (unD_pg u v (sx.pay.hp u hu).1 (sy.pay.hp v hv).1 (by have := sx.el u hu; omega) (by have := sy.el v hv; omega)).2.1
 have mo := (mrg_set keyO 6 keyO_len (risO.1 (payC_ris (xC_zero zx).2.2.2).1).2 (risO.1 (payC_ris (xC_zero zy).2.2.2).1).2 fun u v hu hv e => keyO_inj (hx.pay.ho u hu) (hy.pay.ho v hv) e).2
 have mk := (mrg_set keyK 18 keyK_len (risK.1 (payC_ris (xC_zero zx).2.2.2).2.2).2 (risK.1 (payC_ris (xC_zero zy).2.2.2).2.2).2 fun u v hu hv e => keyK_inj (hx.pay.hq u hu) (hy.pay.hq v hv) e).2
 have eX : D.agg (etaCells ks0 (jR m1 x y) 0) = jR m1 x y := rfl
 have eY : D.agg (etaCells ks0 (jR m2 x y) 0) = jR m2 x y := rfl
 obtain ⟨r, hs1, hs1'⟩ := same43_ok _ _ hX hY
 obtain rfl : r = true := hs1'.2 ⟨rfl, rfl, rfl, rfl, rfl, rfl⟩
 have eO : (jR m1 x y).cell 3 = .sl 58 false (mO (x.cell 3).els (y.cell 3).els) := rfl
 have eP : (jR m1 x y).cell 4 = .sl 84 m1 (mP (x.cell 4).els (y.cell 4).els) := rfl
 have eK : (jR m1 x y).cell 5 = .sl 64 false (mK (x.cell 5).els (y.cell 5).els) := rfl
 rw [show xC (jR m2 x y) = xC (jR m1 x y) from rfl] at j2
 generalize jR m1 x y = X at *
 generalize jR m2 x y = Y at *
 by_cases hz : xC X = 0
 case neg =>
  rw [if_neg hz] at j1 j2
  have := fail 4 4 (by omega) (by omega) j1 j2
  unfold gatepathlaw43_LocalOrder at this
  rwa [ex, ey, alive_is] at this
 rw [if_pos hz] at j1 j2
 have hc := diffCheck_ok n m t o p q hp
 by_cases h1 : payC o p q = 0
 case neg =>
  have fX := filter_bad n m t o p q X hp hX (by simp [firstN, h1])
  have fx := filter_bad n m t o p q x hp hx (by simp [firstN, h1])
  have e1 : firstN [payC o p q, xC X] = payC o p q := by simp [firstN, h1]
  have e2 : firstN [payC o p q, xC x] = payC o p q := by simp [firstN, h1]
  rw [e1] at fX
  rw [e2] at fx
  clear fail hNX mo mk gx pj jn sx sy hbs hsx hsy hN hNx hNy hn hm ht q1 q2 q3 q4 q5 q6 eO eP eK hs0' hs1'
  simp (disch := omega) only [gds, hb, hbx, hby, j1, j2, eX, eY, hs1, fX, fx, hc, h1, ne_eq, not_false_eq_true, not_true_eq_false, beq_self_eq_true]
 obtain ⟨a1, a2, a3, w1, w2, w3, fX⟩ := filter_good' n m t o p q X hp hX h1 hz hn hm ht hN
 obtain ⟨b1, b2, b3, v1, v2, v3, fx⟩ := filter_good' n m t o p q x hp hx h1 zx hn hm ht hN
 have p1 := pay_filter hp (fun d => !goneO x d) (fun d => !goneP x d) (fun d => !goneK x d)
 obtain ⟨c1, c2, c3, _, _, _, fy⟩ := filter_good' b1 b2 b3 _ _ _ y p1 hy (payC_filter h1 _ _ _) zy (fun h => by rw [v1 h]; rfl) (fun h => by rw [v2 h]; rfl) (fun h => by rw [v3 h]; rfl) (fun d hd => hN d (List.mem_filter.1 hd).1)
 rw [filt2 fun d => (gx d).1, filt2 fun d => (gx d).2.2, filt2 fun d => (gx d).2.1] at fX
 obtain ⟨r, hs2, hs2'⟩ := same34_ok a1 a2 a3 c1 c2 c3 _ _ _ _ _ _ (pay_filter p1 (fun d => !goneO y d) (fun d => !goneP y d) (fun d => !goneK y d)) (pay_filter p1 (fun d => !goneO y d) (fun d => !goneP y d) (fun d => !goneK y d))
 obtain rfl : r = true := hs2'.2 ⟨rfl, rfl, rfl⟩
 have hNX' : NnL (X.cell 4).els := by rw [eP]; exact hNX
 obtain ⟨s1, s2, ha⟩ := apply_is n m t o p q X hp hX hn hm ht hN hNX' h1 hz
 split at ha
 case isFalse =>
  clear fail hNX mo mk gx pj jn sx sy hbs hsx hsy hN hNx hNy hn hm ht q1 q2 q3 q4 q5 q6 eO eP eK hs0' hs1' hs2' p1 s1 s2
  simp (disch := omega) only [gds, hb, hbx, hby, j1, j2, eX, eY, hs1, fX, fx, fy, hs2, ha, hc, h1, ne_eq, not_false_eq_true, not_true_eq_false, beq_self_eq_true]
 rename_i h3
 have s3 := sh_filter (fun d => !goneO X d) (fun d => !goneP X d) (fun d => !goneK X d) s1
 have hpp := pay_mrg _ _ _ _ _ _ s3 s2
 obtain ⟨f1, f2, f3, f4⟩ := payC_zero h3
 have mO1 := fun d hd => memO X d o (X.cell 3).els hd hp.ho s2.pay.ho
 have mK1 := fun d hd => memK X d q (X.cell 5).els hd hp.hq s2.pay.hq
 have inO : ∀ d, d ∈ (x.cell 3).els ∨ d ∈ (y.cell 3).els → Og d → (mO (o.filter fun d => !goneO X d) (X.cell 3).els).any (eqO d) = true := fun d hd hg => by
  rw [mO1 d hg, Bool.or_eq_true]
  right
  rw [eO]
  exact List.any_eq_true.2 ⟨d, (mo d).2 hd, (eqO_iff hg hg).2 rfl⟩
 have inK : ∀ d, d ∈ (x.cell 5).els ∨ d ∈ (y.cell 5).els → Kg d → (mK (q.filter fun d => !goneK X d) (X.cell 5).els).any (eqK d) = true := fun d hd hg => by
  rw [mK1 d hg, Bool.or_eq_true]
  right
  rw [eK]
  exact List.any_eq_true.2 ⟨d, (mk d).2 hd, (eqK_iff hg hg).2 rfl⟩
 generalize mO (o.filter fun d => !goneO X d) (X.cell 3).els = O' at *
 generalize mP (p.filter fun d => !goneP X d) (X.cell 4).els = P' at *
 generalize mK (q.filter fun d => !goneK X d) (X.cell 5).els = K' at *
 have lx := sx.no; have ly := sy.no; have kx := sx.nq; have ky := sy.nq
 have pxo := hx.pay.ho; have pyo := hy.pay.ho; have pxq := hx.pay.hq; have pyq := hy.pay.hq
 have loop : ∀ r1 : List D, (r1.getD 0 .undef).cell 0 = .bool true → iter k (gatepathlaw43_LocalOrder.b0 (Cl ty tab) k r1) [.int .i64 0, .pv [.sl 58 false O', .sl 84 P'.isEmpty P', .sl 64 false K'], .ov 31 false [payD (x.cell 3).nb (x.cell 4).nb (x.cell 5).nb (x.cell 3).els (x.cell 4).els (x.cell 5).els, payD (y.cell 3).nb (y.cell 4).nb (y.cell 5).nb (y.cell 3).els (y.cell 4).els (y.cell 5).els]] = some [.bool true] := fun r1 hr1 => by
  refine iter_ix (R := List D) 2 (fun i => [.int .i64 i, .pv [.sl 58 false O', .sl 84 P'.isEmpty P', .sl 64 false K'], .ov 31 false [payD (x.cell 3).nb (x.cell 4).nb (x.cell 5).nb (x.cell 3).els (x.cell 4).els (x.cell 5).els, payD (y.cell 3).nb (y.cell 4).nb (y.cell 5).nb (y.cell 3).els (y.cell 4).els (y.cell 5).els]]) (fun _ => some [.bool true]) (fun i hi ag ha => ?_) (fun ag => ?_) k (by omega) 0 (by omega)
  · unfold gatepathlaw43_LocalOrder.b0
    rcases (by omega : i = 0 ∨ i = 1) with rfl | rfl
    · have := ord1 k hk false P'.isEmpty false O' P' K' [payD (x.cell 3).nb (x.cell 4).nb (x.cell 5).nb (x.cell 3).els (x.cell 4).els (x.cell 5).els, payD (y.cell 3).nb (y.cell 4).nb (y.cell 5).nb (y.cell 3).els (y.cell 4).els (y.cell 5).els] 0 (by omega) _ _ _ _ _ _ rfl (by omega) (by omega) (by omega) (by omega) (fun d hd => ⟨pxo d hd, inO d (.inl hd) (pxo d hd)⟩) (fun d hd => ⟨pxq d hd, inK d (.inl hd) (pxq d hd)⟩) ag [.int .i64 0, .pv [.sl 58 false O', .sl 84 P'.isEmpty P', .sl 64 false K'], .ov 31 false [payD (x.cell 3).nb (x.cell 4).nb (x.cell 5).nb (x.cell 3).els (x.cell 4).els (x.cell 5).els, payD (y.cell 3).nb (y.cell 4).nb (y.cell 5).nb (y.cell 3).els (y.cell 4).els (y.cell 5).els]] rfl
      exact this.trans ha
    · have := ord1 k hk false P'.isEmpty false O' P' K' [payD (x.cell 3).nb (x.cell 4).nb (x.cell 5).nb (x.cell 3).els (x.cell 4).els (x.cell 5).els, payD (y.cell 3).nb (y.cell 4).nb (y.cell 5).nb (y.cell 3).els (y.cell 4).els (y.cell 5).els] 1 (by omega) _ _ _ _ _ _ rfl (by omega) (by omega) (by omega) (by omega) (fun d hd => ⟨pyo d hd, inO d (.inr hd) (pyo d hd)⟩) (fun d hd => ⟨pyq d hd, inK d (.inr hd) (pyq d hd)⟩) ag [.int .i64 1, .pv [.sl 58 false O', .sl 84 P'.isEmpty P', .sl 64 false K'], .ov 31 false [payD (x.cell 3).nb (x.cell 4).nb (x.cell 5).nb (x.cell 3).els (x.cell 4).els (x.cell 5).els, payD (y.cell 3).nb (y.cell 4).nb (y.cell 5).nb (y.cell 3).els (y.cell 4).els (y.cell 5).els]] rfl
      exact this.trans ha
  · unfold gatepathlaw43_LocalOrder.b0
    simp (disch := omega) only [gds, hr1]
 have loop := loop [.bool true] rfl
 clear fail hNX mo mk gx pj jn sx sy hbs hsx hsy hN hNx hNy hn hm ht q1 q2 q3 q4 q5 q6 eO eP eK hs0' hs1' hs2' p1 s1 s2 s3 hpp mO1 mK1 inO inK f1 f2 f3 f4 lx ly kx ky pxo pyo pxq pyq hX hY hx hy hp w1 w2 w3 v1 v2 v3 hk hNX' h3
 simp (disch := omega) only [gds, hb, hbx, hby, j1, j2, eX, eY, hs1, fX, fx, fy, hs2, ha, hc, h1, ne_eq, not_false_eq_true, not_true_eq_false, beq_self_eq_true]
 exact loop
end
theorem localOrder_law : LawTrue ty tab 8 [⟨true, [.sl 58, .sl 84, .sl 64]⟩, ⟨true, xKs⟩, ⟨true, xKs⟩] := by
 refine lawTrue_of fun dd hf hw => ?_
 obtain ⟨d1, dd, rfl, h1, hf⟩ := fitsV_cons hf
 obtain ⟨d2, dd, rfl, h2, hf⟩ := fitsV_cons hf
 obtain ⟨d3, dd, rfl, h3, hf⟩ := fitsV_cons hf
 obtain rfl := fitsV_nil hf
 obtain ⟨n, m, t, o, p, q, rfl, hp, hn, hm, ht, hN⟩ := pay_of h1 (hw _ (by simp))
 exact law8_cl 60001 (by omega) n m t o p q d2 d3 hp (xg_of h2 (hw _ (by simp))) (xg_of h3 (hw _ (by simp))) hn hm ht hN (nnl_of h2 (hw _ (by simp))) (nnl_of h3 (hw _ (by simp)))
end Go.Proofs.YtapfhcnigmighaaGreat.Own
