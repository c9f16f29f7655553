import Derived.Test.YtkfnkiejikhglaaG5
import Derived.Test.YtkfnkiejikhglaaR
import Derived.Sort.AssemblyPlain
import Derived.Sort.LotD4
import Derived.Sort.LotD5
set_option linter.unusedVariables false
set_option linter.unusedSimpArgs false
set_option linter.unusedSectionVars false
namespace Go.Proofs.Ytkfnkiejikhglaa.GD
open Go
theorem wrap_u64 (n : Int) : IntKind.u64.wrap n = n % 18446744073709551616 := by
 simp [IntKind.wrap, IntKind.bits, IntKind.signed]
theorem wrap_u64' {n : Nat} (h : n < 18446744073709551616) : IntKind.u64.wrap (n : Int) = n := by rw [wrap_u64]; omega
def clr (x n : Nat) : Nat := x - x % 2 ^ n
theorem clr_eq (x n : Nat) : clr x n = x / 2 ^ n * 2 ^ n := by
 unfold clr
 have := Nat.div_add_mod x (2 ^ n)
 rw [Nat.mul_comm] at this
 omega
theorem clr_le (x n : Nat) : clr x n ≤ x := by unfold clr; omega
theorem testBit_clr (x n i : Nat) : (clr x n).testBit i = (decide (n ≤ i) && x.testBit i) := by
 rw [clr_eq, ← Nat.shiftRight_eq_div_pow, ← Nat.shiftLeft_eq, Nat.testBit_shiftLeft, Nat.testBit_shiftRight]
 by_cases h : n ≤ i
 · simp [h, Nat.add_sub_cancel' h]
 · simp [h]
theorem testBit_ones (n i : Nat) (hn : n ≤ 64) : (18446744073709551616 - 2 ^ n).testBit i = (decide (n ≤ i) && decide (i < 64)) := by
 have e : 18446744073709551616 - 2 ^ n = clr (2 ^ 64 - 1) n := by
  unfold clr
  have hle : 2 ^ n ≤ 2 ^ 64 := Nat.pow_le_pow_right (by omega) hn
  have hpos : 0 < 2 ^ n := Nat.pow_pos (by omega)
  have : (2 ^ 64 - 1) % 2 ^ n = 2 ^ n - 1 := by
   obtain ⟨k, hk⟩ : ∃ k, 64 = n + k := ⟨64 - n, by omega⟩
   have h64 : (2 : Nat) ^ 64 = 2 ^ n * 2 ^ k := by rw [hk, Nat.pow_add]
   have hk1 : 0 < 2 ^ k := Nat.pow_pos (by omega)
   have e2 : 2 ^ 64 - 1 = 2 ^ n * (2 ^ k - 1) + (2 ^ n - 1) := by
    rw [h64, Nat.mul_sub, Nat.mul_one]
    have : 2 ^ n ≤ 2 ^ n * 2 ^ k := Nat.le_mul_of_pos_right _ hk1
    omega
   rw [e2, Nat.mul_add_mod, Nat.mod_eq_of_lt (by omega)]
  rw [this]
  omega
 rw [e, testBit_clr, Nat.testBit_two_pow_sub_one]
theorem and_ones {x n : Nat} (hx : x < 18446744073709551616) (hn : n ≤ 64) : x &&& (18446744073709551616 - 2 ^ n) = clr x n := by
 apply Nat.eq_of_testBit_eq
 intro i
 rw [Nat.testBit_and, testBit_ones n i hn, testBit_clr]
 by_cases h : i < 64
 · simp [h, Bool.and_comm]
 · have : x.testBit i = false := Nat.testBit_lt_two_pow (Nat.lt_of_lt_of_le hx (by
    have : (2 : Nat) ^ 64 ≤ 2 ^ i := Nat.pow_le_pow_right (by omega) (by omega)
    simpa using this))
   simp [this]
theorem and_low32 {x : Nat} : x &&& 4294967295 = x % 4294967296 := by
 have := Nat.and_two_pow_sub_one_eq_mod x 32
 simpa using this
theorem and_u64 {x y : Nat} (hx : x < 18446744073709551616) (hy : y < 18446744073709551616) : IntKind.u64.wrap (BitVec.ofInt (IntKind.u64).bits (x : Int) &&& BitVec.ofInt (IntKind.u64).bits (y : Int)).toNat = ((x &&& y : Nat) : Int) := by
 have e : (BitVec.ofInt (IntKind.u64).bits (x : Int) &&& BitVec.ofInt (IntKind.u64).bits (y : Int)).toNat = x &&& y := by
  show (BitVec.ofInt 64 (x : Int) &&& BitVec.ofInt 64 (y : Int)).toNat = x &&& y
  rw [BitVec.toNat_and]
  simp only [BitVec.ofInt_natCast, BitVec.toNat_ofNat]
  rw [Nat.mod_eq_of_lt (by simpa using hx), Nat.mod_eq_of_lt (by simpa using hy)]
 rw [e]
 exact wrap_u64' (Nat.lt_of_le_of_lt Nat.and_le_left hx)
theorem ones_shl {n : Nat} (hn : n ≤ 64) : IntKind.u64.wrap (18446744073709551615 * 2 ^ n) = ((18446744073709551616 - 2 ^ n : Nat) : Int) := by
 have hle : 2 ^ n ≤ 18446744073709551616 := by
  have : (2 : Nat) ^ n ≤ 2 ^ 64 := Nat.pow_le_pow_right (by omega) hn
  simpa using this
 have hpos : 0 < 2 ^ n := Nat.pow_pos (by omega)
 rw [wrap_u64]
 have e : (18446744073709551615 * 2 ^ n : Int) = ((18446744073709551615 * 2 ^ n : Nat) : Int) := by simp
 rw [e]
 have : 18446744073709551615 * 2 ^ n = 18446744073709551616 * (2 ^ n - 1) + (18446744073709551616 - 2 ^ n) := by
  rw [Nat.mul_sub, Nat.mul_one]
  have : 18446744073709551616 ≤ 18446744073709551616 * 2 ^ n := Nat.le_mul_of_pos_right _ hpos
  omega
 rw [this]
 omega
end Go.Proofs.Ytkfnkiejikhglaa.GD
namespace Go.Proofs.Ytkfnkiejikhglaa.Own
open Go Go.Proofs.Ytkfnkiejikhglaa.GD
def widthF (f : Int) : Nat := if f = 4 then 32 else if f = 6 then 128 else 0
def addrOk (f : Int) (h l : Nat) : Bool := if f = 6 then true else decide (f = 4 ∧ h = 0 ∧ l < 4294967296)
def cutA (f : Int) (h l n : Nat) : Nat × Nat := if 64 ≤ n then (clr h (n - 64), 0) else (h, clr l n)
def bitK (h l k : Nat) : Bool := if 63 < k then h.testBit (k - 64) else l.testBit k
def checkP (f : Int) (h l : Nat) (len : Int) : Int :=
 if widthF f = 0 then 2 else if addrOk f h l = true ∧ 0 ≤ len ∧ len ≤ widthF f ∧ cutA f h l (widthF f - len.toNat) = (h, l) then 0 else 8
abbrev A64 (h l : Nat) : D := .agg [.int .u64 (h : Int), .int .u64 (l : Int)]
abbrev P4 (f : Int) (h l : Nat) (len : Int) : D := .agg [.int .u8 f, .int .u64 (h : Int), .int .u64 (l : Int), .int .i64 len]
structure In64 (h l : Nat) : Prop where
 h : h < 18446744073709551616
 l : l < 18446744073709551616
theorem width_ok (f : Int) : Cl ty tab 88 [.int .u8 f] = some [.int .i64 (widthF f : Nat)] := by
 refine s_number_width 0 _ ?_
 unfold number_width widthF
 by_cases h4 : f = 4
 · simp (disch := omega) only [gds, h4]; rfl
 · by_cases h6 : f = 6
   · simp (disch := omega) only [gds, h4, h6]; rfl
   · simp (disch := omega) only [gds, h4, h6]; rfl
theorem addr_ok (f : Int) (h l : Nat) : Cl ty tab 55 [.int .u8 f, A64 h l] = some [.bool (addrOk f h l)] := by
 refine s_number_CheckAddr 0 _ _ _ ?_
 unfold number_CheckAddr addrOk
 by_cases h6 : f = 6
 · simp (disch := omega) only [gds, h6]
 · by_cases h4 : f = 4
   · by_cases hh : h = 0
     · have : ((h : Int) = 0) := by omega
       have e : decide ((l : Int) < 4294967296) = decide (l < 4294967296) := by simp only [decide_eq_decide]; omega
       simp (disch := omega) only [gds, h6, h4, this, hh, e, true_and]
     · have : ¬ ((h : Int) = 0) := by omega
       simp (disch := omega) only [gds, h6, h4, this, hh, false_and, and_false]
   · simp (disch := omega) only [gds, h6, h4, false_and]
theorem clr_lt {x n m : Nat} (h : x < m) : clr x n < m := Nat.lt_of_le_of_lt (clr_le x n) h
theorem mask_ok (f : Int) (len : Int) (hf : f = 4 ∨ f = 6) (h0 : 0 ≤ len) (h1 : len ≤ widthF f) : ∃ mh ml : Nat, In64 mh ml ∧ Cl ty tab 64 [.int .u8 f, .int .i64 len] = some [A64 mh ml] ∧
  ∀ h l, In64 h l → addrOk f h l = true → (h &&& mh, l &&& ml) = cutA f h l (widthF f - len.toNat) := by
 have p64 : ∀ n, 18446744073709551616 - 2 ^ n < 18446744073709551616 := fun n => by have : 0 < 2 ^ n := Nat.pow_pos (by omega); omega
 rcases hf with rfl | rfl
 · have hw : widthF 4 = 32 := rfl
   rw [hw] at h1 ⊢
   obtain ⟨n, rfl⟩ : ∃ n : Nat, len = n := ⟨len.toNat, by omega⟩
   have e1 : ((18446744073709551616 - 2 ^ (32 - n) : Nat) &&& 4294967295) < 18446744073709551616 := Nat.lt_of_le_of_lt Nat.and_le_left (p64 _)
   refine ⟨0, (18446744073709551616 - 2 ^ (32 - n)) &&& 4294967295, ⟨by omega, e1⟩, ?_, ?_⟩
   · refine s_number_mask 0 _ _ ?_
     unfold number_mask
     have e2 : ((32 : Nat) : Int) - n = ((32 - n : Nat) : Int) := by omega
     have e3 : min (32 - n) (IntKind.u64).bits = 32 - n := by show min _ 64 = _; omega
     have e4 := ones_shl (n := 32 - n) (by omega)
     have e5 := and_u64 (p64 (32 - n)) (show 4294967295 < 18446744073709551616 by omega)
     simp (disch := omega) only [gds, width_ok, hw, e2, e3, e4]
     rw [show ((4294967295 : Int)) = ((4294967295 : Nat) : Int) from rfl, e5]
     rfl
   · intro h l hr ha
     unfold addrOk at ha
     simp at ha
     obtain ⟨rfl, hl⟩ := ha
     have hn : ¬ 64 ≤ 32 - (n : Int).toNat := by omega
     unfold cutA
     rw [if_neg hn, Int.toNat_natCast]
     have : l &&& ((18446744073709551616 - 2 ^ (32 - n)) &&& 4294967295) = clr l (32 - n) := by
      rw [Nat.and_comm (18446744073709551616 - 2 ^ (32 - n)), ← Nat.and_assoc, and_low32, Nat.mod_eq_of_lt hl, and_ones hr.l (by omega)]
     rw [this]
     simp
 · have hw : widthF 6 = 128 := rfl
   rw [hw] at h1 ⊢
   obtain ⟨n, rfl⟩ : ∃ n : Nat, len = n := ⟨len.toNat, by omega⟩
   have e2 : ((128 : Nat) : Int) - n = ((128 - n : Nat) : Int) := by omega
   by_cases hn : 64 ≤ 128 - n
   · refine ⟨18446744073709551616 - 2 ^ (128 - n - 64), 0, ⟨p64 _, by omega⟩, ?_, ?_⟩
     · refine s_number_mask 0 _ _ ?_
       unfold number_mask
       have e3 : min (128 - n - 64) (IntKind.u64).bits = 128 - n - 64 := by show min _ 64 = _; omega
       have e4 := ones_shl (n := 128 - n - 64) (by omega)
       have e6 : ((128 - n : Nat) : Int) - 64 = ((128 - n - 64 : Nat) : Int) := by omega
       have e7 : (64 : Int) ≤ ((128 - n : Nat) : Int) := by omega
       simp (disch := omega) only [gds, width_ok, hw, e2, e6, e7, e3, e4, show ¬ (6 : Int) = 4 by omega]
       rfl
     · intro h l hr ha
       unfold cutA
       rw [Int.toNat_natCast, if_pos hn, and_ones hr.h (by omega), Nat.and_zero]
   · refine ⟨18446744073709551615, 18446744073709551616 - 2 ^ (128 - n), ⟨by omega, p64 _⟩, ?_, ?_⟩
     · refine s_number_mask 0 _ _ ?_
       unfold number_mask
       have e3 : min (128 - n) (IntKind.u64).bits = 128 - n := by show min _ 64 = _; omega
       have e4 := ones_shl (n := 128 - n) (by omega)
       have e7 : ¬ (64 : Int) ≤ ((128 - n : Nat) : Int) := by omega
       simp (disch := omega) only [gds, width_ok, hw, e2, e7, e3, e4, show ¬ (6 : Int) = 4 by omega]
       rfl
     · intro h l hr ha
       unfold cutA
       rw [Int.toNat_natCast, if_neg hn, and_ones hr.l (by omega)]
       have : h &&& 18446744073709551615 = h := by
        have := Nat.and_two_pow_sub_one_eq_mod h 64
        simp at this
        rw [this, Nat.mod_eq_of_lt hr.h]
       rw [this]
theorem and_ok (a b c d : Nat) (h1 : In64 a b) (h2 : In64 c d) : Cl ty tab 63 [A64 a b, A64 c d] = some [A64 (a &&& c) (b &&& d)] := by
 refine s_number_and 0 _ _ _ _ ?_
 unfold number_and
 rw [and_u64 h1.h h2.h, and_u64 h1.l h2.l]
theorem widthF_cases (f : Int) : widthF f = 0 ∨ (f = 4 ∧ widthF f = 32) ∨ (f = 6 ∧ widthF f = 128) := by
 unfold widthF
 by_cases h4 : f = 4
 · simp [h4]
 · by_cases h6 : f = 6 <;> simp [h4, h6]
theorem check_prefix_ok (f : Int) (h l : Nat) (len : Int) (hr : In64 h l) : Cl ty tab 62 [P4 f h l len] = some [.int .i64 (checkP f h l len)] := by
 refine s_number_Check 0 _ _ _ _ ?_
 unfold number_Check checkP
 rcases widthF_cases f with hw | hw
 · simp (disch := omega) only [gds, width_ok, hw, Int.natCast_zero]
 have hw0 : ¬ widthF f = 0 := by rcases hw with ⟨_, h⟩ | ⟨_, h⟩ <;> omega
 have hw0' : ¬ ((widthF f : Nat) : Int) = 0 := by omega
 have hf : f = 4 ∨ f = 6 := by rcases hw with ⟨h, _⟩ | ⟨h, _⟩; exact .inl h; exact .inr h
 cases ha : addrOk f h l
 · simp (disch := omega) only [gds, width_ok, hw0, hw0', addr_ok, ha, false_and]
 by_cases h1 : len < 0
 · have : ¬ 0 ≤ len := by omega
   simp (disch := omega) only [gds, width_ok, hw0, hw0', addr_ok, ha, h1, this, false_and, and_false]
 by_cases h2 : ((widthF f : Nat) : Int) < len
 · have : ¬ len ≤ ((widthF f : Nat) : Int) := by omega
   simp (disch := omega) only [gds, width_ok, hw0, hw0', addr_ok, ha, h1, h2, this, false_and, and_false]
 obtain ⟨mh, ml, hm, hmask, hcut⟩ := mask_ok f len hf (by omega) (by omega)
 have hc := hcut h l hr ha
 have hand := and_ok h l mh ml hr hm
 have h3 : 0 ≤ len := by omega
 have h4 : len ≤ ((widthF f : Nat) : Int) := by omega
 rw [← hc]
 simp (disch := omega) only [gds, width_ok, hw0, hw0', addr_ok, ha, h1, h2, hmask, hand, h3, h4, true_and]
 by_cases q1 : h &&& mh = h
 · by_cases q2 : l &&& ml = l
   · have e1 : ((h &&& mh : Nat) : Int) = h := by rw [q1]
     have e2 : ((l &&& ml : Nat) : Int) = l := by rw [q2]
     rw [e1, e2]
     simp [q1, q2]
   · have e2 : ¬ ((l &&& ml : Nat) : Int) = l := by omega
     simp [q2, e2]
 · have e1 : ¬ ((h &&& mh : Nat) : Int) = h := by omega
   simp [q1, e1]
theorem testBit_mod (x k : Nat) : ((x / 2 ^ k % 2 : Nat) : Int) = if x.testBit k = true then 1 else 0 := by
 rw [Nat.testBit_eq_decide_div_mod_eq]
 have : x / 2 ^ k % 2 < 2 := Nat.mod_lt _ (by omega)
 by_cases h : x / 2 ^ k % 2 = 1
 · simp [h]
 · have : x / 2 ^ k % 2 = 0 := by omega
   simp [this]
theorem clr_id {x n : Nat} : clr x n = x ↔ ∀ k, k < n → x.testBit k = false := by
 constructor
 · intro h k hk
   have := testBit_clr x n k
   rw [h] at this
   simpa [Nat.not_le.2 hk] using this
 · intro h
   apply Nat.eq_of_testBit_eq
   intro i
   rw [testBit_clr]
   by_cases hi : n ≤ i
   · simp [hi]
   · simp [hi, h i (by omega)]
theorem cut_id {f : Int} {h l n : Nat} (hr : In64 h l) : cutA f h l n = (h, l) ↔ ∀ k, k < n → bitK h l k = false := by
 unfold cutA bitK
 by_cases hn : 64 ≤ n
 · rw [if_pos hn]
   simp only [Prod.mk.injEq]
   rw [clr_id]
   constructor
   · rintro ⟨h1, rfl⟩ k hk
     by_cases h63 : 63 < k
     · rw [if_pos h63]; exact h1 _ (by omega)
     · rw [if_neg h63]; simp
   · intro hz
     refine ⟨fun k hk => ?_, ?_⟩
     · have := hz (k + 64) (by omega)
       rw [if_pos (by omega)] at this
       simpa using this
     · apply Nat.eq_of_testBit_eq
       intro i
       by_cases hi : i < 64
       · have := hz i (by omega)
         rw [if_neg (by omega)] at this
         rw [this]; simp
       · have h2 : l.testBit i = false := Nat.testBit_lt_two_pow (Nat.lt_of_lt_of_le hr.l (by
          have : (2 : Nat) ^ 64 ≤ 2 ^ i := Nat.pow_le_pow_right (by omega) (by omega)
          simpa using this))
         rw [h2]; simp
 · rw [if_neg hn]
   simp only [Prod.mk.injEq, true_and]
   rw [clr_id]
   constructor
   · intro h1 k hk
     rw [if_neg (by omega)]; exact h1 k hk
   · intro hz k hk
     have := hz k hk
     rwa [if_neg (by omega)] at this
end Go.Proofs.Ytkfnkiejikhglaa.Own
namespace Go.Proofs.Ytkfnkiejikhglaa.GD.Trie
abbrev Bs := List Bool
def lcp : Bs → Bs → Bs
 | a :: x, b :: y => if a = b then a :: lcp x y else []
 | _, _ => []
def klt : Bs → Bs → Bool
 | _, [] => false
 | [], _ :: _ => true
 | a :: x, b :: y => (!a && b) || (a == b && klt x y)
theorem lcp_pre1 : ∀ x y : Bs, lcp x y <+: x
 | [], y => by cases y <;> simp [lcp]
 | a :: x, [] => by simp [lcp]
 | a :: x, b :: y => by
  unfold lcp
  split
  · exact (List.prefix_cons_inj a).2 (lcp_pre1 x y)
  · exact List.nil_prefix
theorem lcp_pre2 : ∀ x y : Bs, lcp x y <+: y
 | [], y => by cases y <;> simp [lcp]
 | a :: x, [] => by simp [lcp]
 | a :: x, b :: y => by
  unfold lcp
  split
  · rename_i h; subst h; exact (List.prefix_cons_inj a).2 (lcp_pre2 x y)
  · exact List.nil_prefix
theorem lcp_self : ∀ x : Bs, lcp x x = x
 | [] => rfl
 | a :: x => by simp [lcp, lcp_self x]
theorem lcp_app : ∀ t x y : Bs, lcp (t ++ x) (t ++ y) = t ++ lcp x y
 | [], x, y => rfl
 | a :: t, x, y => by simp [lcp, lcp_app t x y]
theorem lcp_max {t x y : Bs} (h1 : t <+: x) (h2 : t <+: y) : t <+: lcp x y := by
 obtain ⟨x, rfl⟩ := h1; obtain ⟨y, rfl⟩ := h2
 rw [lcp_app]; exact List.prefix_append ..
theorem klt_irrefl : ∀ x : Bs, klt x x = false
 | [] => rfl
 | a :: x => by cases a <;> simp [klt, klt_irrefl x]
theorem klt_app : ∀ t x y : Bs, klt (t ++ x) (t ++ y) = klt x y
 | [], x, y => rfl
 | a :: t, x, y => by cases a <;> simp [klt, klt_app t x y]
theorem klt_trans : ∀ {x y z : Bs}, klt x y = true → klt y z = true → klt x z = true
 | _, [], _, h, _ => by cases ‹Bs› <;> simp [klt] at h
 | _, _ :: _, [], _, h => by simp [klt] at h
 | [], _ :: _, _ :: _, _, _ => rfl
 | a :: x, b :: y, c :: z, h1, h2 => by
  have ih := @klt_trans x y z
  cases a <;> cases b <;> cases c <;> simp [klt] at h1 h2 ⊢
  · exact ih h1 h2
  · exact ih h1 h2
theorem klt_tri : ∀ x y : Bs, klt x y = true ∨ x = y ∨ klt y x = true
 | [], [] => .inr (.inl rfl)
 | [], _ :: _ => .inl rfl
 | _ :: _, [] => .inr (.inr rfl)
 | a :: x, b :: y => by
  have ih := klt_tri x y
  cases a <;> cases b <;> simp [klt] <;> simpa using ih
theorem klt_asymm {x y : Bs} (h : klt x y = true) : klt y x = false := by
 cases h2 : klt y x
 · rfl
 · have := klt_trans h h2; rw [klt_irrefl] at this; cases this
theorem klt_ne {x y : Bs} (h : klt x y = true) : x ≠ y := by
 rintro rfl; rw [klt_irrefl] at h; cases h
theorem klt_pre {x y : Bs} (h : x <+: y) (hn : x ≠ y) : klt x y = true := by
 obtain ⟨s, rfl⟩ := h
 have := klt_app x [] s
 rw [List.append_nil] at this
 rw [this]
 cases s
 · simp at hn
 · rfl
def kle (x y : Bs) : Prop := x = y ∨ klt x y = true
theorem klt_kle {x y z : Bs} (h : klt x y = true) (h2 : kle y z) : klt x z = true := by
 rcases h2 with rfl | h2
 · exact h
 · exact klt_trans h h2
theorem between : ∀ {t x y z : Bs}, t <+: x → t <+: z → kle x y → kle y z → t <+: y
 | [], _, _, _, _, _, _, _ => List.nil_prefix
 | a :: t, x, y, z, hx, hz, h1, h2 => by
  obtain ⟨x, rfl⟩ := hx; obtain ⟨z, rfl⟩ := hz
  rcases h1 with rfl | h1
  · exact List.prefix_append ..
  rcases h2 with rfl | h2
  · exact List.prefix_append ..
  cases y with
  | nil => simp [klt] at h1
  | cons b y =>
   have ih := @between t (t ++ x) y (t ++ z) (List.prefix_append ..) (List.prefix_append ..)
   have hb : b = a ∧ klt (t ++ x) y = true ∧ klt y (t ++ z) = true := by
    cases a <;> cases b <;> simp [klt] at h1 h2 <;> simp [h1, h2]
   obtain ⟨rfl, g1, g2⟩ := hb
   exact (List.prefix_cons_inj b).2 (ih (.inr g1) (.inr g2))
structure En where
 k : Bs
 v : List Int
deriving Inhabited
structure Nd where
 k : Bs
 v : List Int
 c0 : Int
 c1 : Int
deriving Inhabited
def bitAt (k : Bs) (i : Nat) : Bool := k.getD i false
theorem bitAt_app (t s : Bs) (b : Bool) : bitAt (t ++ b :: s) t.length = b := by simp [bitAt, List.getD_eq_getElem?_getD]
abbrev Srt (l : List En) : Prop := l.Pairwise fun a b => klt a.k b.k = true
def ix (l : List En) (b : Nat) : Int := if l.isEmpty then -1 else b
def restF (e : En) (r : List En) : List En := if e.k = lcp e.k (r.getLastD e).k then r else e :: r
def topF (e : En) (r : List En) : Bs := lcp e.k (r.getLastD e).k
def zer (t : Bs) (l : List En) : List En := l.takeWhile fun x => !bitAt x.k t.length
def ons (t : Bs) (l : List En) : List En := l.dropWhile fun x => !bitAt x.k t.length
def growF : Nat → Nat → List En → List Nd
 | 0, _, _ => []
 | _ + 1, _, [] => []
 | n + 1, base, e :: r =>
  ⟨topF e r, if e.k = topF e r then e.v else [], ix (zer (topF e r) (restF e r)) (base + 1), ix (ons (topF e r) (restF e r)) (base + 1 + (growF n (base + 1) (zer (topF e r) (restF e r))).length)⟩ ::
   (growF n (base + 1) (zer (topF e r) (restF e r)) ++ growF n (base + 1 + (growF n (base + 1) (zer (topF e r) (restF e r))).length) (ons (topF e r) (restF e r)))
theorem growF_nil (n base : Nat) : growF n base [] = [] := by cases n <;> rfl
theorem last_mem (e : En) (r : List En) : r.getLastD e ∈ e :: r := by
 rcases List.eq_nil_or_concat r with rfl | ⟨r', a, rfl⟩
 · simp
 · simp [List.getLastD_concat]
theorem srt_last {e : En} {r : List En} (h : Srt (e :: r)) {x : En} (hx : x ∈ e :: r) : kle e.k x.k ∧ kle x.k (r.getLastD e).k := by
 constructor
 · rcases List.mem_cons.1 hx with rfl | hx
   · exact .inl rfl
   · exact .inr ((List.pairwise_cons.1 h).1 x hx)
 · rcases List.eq_nil_or_concat r with rfl | ⟨r', a, rfl⟩
   · simp at hx; subst hx; exact .inl rfl
   · rw [List.concat_eq_append] at *
     rw [List.getLastD_concat]
     have : (e :: (r' ++ [a])) = (e :: r') ++ [a] := rfl
     rw [this] at h hx
     rcases List.mem_append.1 hx with hx | hx
     · exact .inr ((List.pairwise_append.1 h).2.2 x hx a (by simp))
     · simp at hx; subst hx; exact .inl rfl
theorem top_pre {e : En} {r : List En} (h : Srt (e :: r)) {x : En} (hx : x ∈ e :: r) : topF e r <+: x.k :=
 between (lcp_pre1 _ _) (lcp_pre2 _ _) (srt_last h hx).1 (srt_last h hx).2
theorem rest_mem {e : En} {r : List En} {x : En} (hx : x ∈ restF e r) : x ∈ e :: r := by
 unfold restF at hx
 split at hx
 · exact List.mem_cons_of_mem _ hx
 · exact hx
theorem rest_ne {e : En} {r : List En} (h : Srt (e :: r)) {x : En} (hx : x ∈ restF e r) : x.k ≠ topF e r := by
 have hx' := rest_mem hx
 unfold restF at hx
 split at hx
 · rename_i he
   have : klt e.k x.k = true := (List.pairwise_cons.1 h).1 x hx
   intro hc
   rw [hc] at this
   exact klt_ne this he
 · rename_i he
   intro hc
   have h1 : klt (topF e r) e.k = true := klt_pre (lcp_pre1 _ _) (fun hh => he hh.symm)
   have h2 := klt_kle h1 (srt_last h hx').1
   exact klt_ne h2 hc.symm
theorem rest_srt {e : En} {r : List En} (h : Srt (e :: r)) : Srt (restF e r) := by
 unfold restF
 split
 · exact (List.pairwise_cons.1 h).2
 · exact h
theorem rest_bit {e : En} {r : List En} (h : Srt (e :: r)) {x : En} (hx : x ∈ restF e r) : topF e r ++ [bitAt x.k (topF e r).length] <+: x.k := by
 obtain ⟨s, hs⟩ := top_pre h (rest_mem hx)
 have hn := rest_ne h hx
 cases s with
 | nil => rw [List.append_nil] at hs; exact absurd hs.symm hn
 | cons b s =>
  rw [← hs, bitAt_app]
  exact ⟨s, by simp⟩
theorem klt_bits {t s u : Bs} {a b : Bool} (h : klt (t ++ a :: s) (t ++ b :: u) = true) : a = true → b = true := by
 rw [klt_app] at h
 intro ha; subst ha
 cases b
 · simp [klt] at h
 · rfl
theorem pre_bit {t k : Bs} {b : Bool} (h : t ++ [b] <+: k) : bitAt k t.length = b := by
 obtain ⟨s, rfl⟩ := h
 rw [List.append_assoc, List.singleton_append, bitAt_app]
theorem mem_zer {t : Bs} {l : List En} {x : En} (h : x ∈ zer t l) : bitAt x.k t.length = false ∧ x ∈ l := by
 unfold zer at h
 induction l with
 | nil => simp at h
 | cons a l ih =>
  rw [List.takeWhile_cons] at h
  split at h
  · rename_i ha
    rcases List.mem_cons.1 h with rfl | h
    · exact ⟨by simpa using ha, List.mem_cons_self ..⟩
    · exact ⟨(ih h).1, List.mem_cons_of_mem _ (ih h).2⟩
  · simp at h
theorem zer_ons (t : Bs) (l : List En) : zer t l ++ ons t l = l := List.takeWhile_append_dropWhile
theorem mem_ons' {t : Bs} : ∀ {l : List En}, Srt l → (∀ x, x ∈ l → t ++ [bitAt x.k t.length] <+: x.k) → ∀ {x}, x ∈ ons t l → bitAt x.k t.length = true
 | [], _, _, x, h => by simp [ons] at h
 | a :: l, hs, hp, x, h => by
  unfold ons at h
  rw [List.dropWhile_cons] at h
  split at h
  · exact mem_ons' (List.pairwise_cons.1 hs).2 (fun y hy => hp y (List.mem_cons_of_mem _ hy)) h
  · rename_i ha
    have ha : bitAt a.k t.length = true := by simpa using ha
    rcases List.mem_cons.1 h with rfl | h
    · exact ha
    · have h1 := (List.pairwise_cons.1 hs).1 x h
      obtain ⟨s1, e1⟩ := hp a (List.mem_cons_self ..)
      obtain ⟨s2, e2⟩ := hp x (List.mem_cons_of_mem _ h)
      rw [ha] at e1
      rw [← e1, ← e2, List.append_assoc, List.append_assoc] at h1
      exact klt_bits h1 rfl
structure Split (e : En) (r Z O : List En) : Prop where
 app : Z ++ O = restF e r
 zp : ∀ x, x ∈ Z → topF e r ++ [false] <+: x.k
 op : ∀ x, x ∈ O → topF e r ++ [true] <+: x.k
 zl : Z.length ≤ r.length
 ol : O.length ≤ r.length
 zs : Srt Z
 os : Srt O
 two : e.k ≠ topF e r → Z ≠ [] ∧ O ≠ []
 top : ∀ x, x ∈ e :: r → topF e r <+: x.k
theorem split_of {e : En} {r : List En} (h : Srt (e :: r)) : Split e r (zer (topF e r) (restF e r)) (ons (topF e r) (restF e r)) := by
 have hb := fun x hx => rest_bit (x := x) h hx
 have ha := zer_ons (topF e r) (restF e r)
 have hzp : ∀ x, x ∈ zer (topF e r) (restF e r) → topF e r ++ [false] <+: x.k := fun x hx => by
  have := hb x (mem_zer hx).2
  rwa [(mem_zer hx).1] at this
 have hop : ∀ x, x ∈ ons (topF e r) (restF e r) → topF e r ++ [true] <+: x.k := fun x hx => by
  have h1 : x ∈ restF e r := by rw [← ha]; exact List.mem_append_right _ hx
  have := hb x h1
  rwa [mem_ons' (rest_srt h) hb hx] at this
 have hs := rest_srt h
 rw [← ha] at hs
 have htwo : e.k ≠ topF e r → zer (topF e r) (restF e r) ≠ [] ∧ ons (topF e r) (restF e r) ≠ [] := by
  intro hne
  have hr : restF e r = e :: r := by unfold restF; exact if_neg hne
  have he := hb e (by rw [hr]; exact List.mem_cons_self ..)
  have hl := hb (r.getLastD e) (by rw [hr]; exact last_mem e r)
  have hlt : klt e.k (r.getLastD e).k = true := by
   rcases (srt_last h (List.mem_cons_self ..)).2 with h1 | h1
   · exact absurd (show e.k = topF e r by unfold topF; rw [← h1, lcp_self]) hne
   · exact h1
  have hd : bitAt e.k (topF e r).length = false ∧ bitAt (r.getLastD e).k (topF e r).length = true := by
   obtain ⟨s1, e1⟩ := he
   obtain ⟨s2, e2⟩ := hl
   have htop : topF e r = lcp e.k (r.getLastD e).k := rfl
   generalize hA : bitAt e.k (topF e r).length = A at *
   generalize hB : bitAt (r.getLastD e).k (topF e r).length = B at *
   generalize topF e r = t at *
   rw [← e1, ← e2, List.append_assoc, List.append_assoc, lcp_app] at htop
   rw [← e1, ← e2, List.append_assoc, List.append_assoc] at hlt
   have hl0 : lcp ([A] ++ s1) ([B] ++ s2) = [] := by
    have := congrArg List.length htop
    rw [List.length_append] at this
    exact List.length_eq_zero_iff.1 (by omega)
   cases A <;> cases B
   · simp [lcp] at hl0
   · exact ⟨rfl, rfl⟩
   · exact absurd (klt_bits hlt rfl) (by simp)
   · simp [lcp] at hl0
  constructor
  · rw [hr]; unfold zer; rw [List.takeWhile_cons, hd.1]; simp
  · intro hn
    rw [hn, List.append_nil, hr] at ha
    have : r.getLastD e ∈ zer (topF e r) (restF e r) := by rw [hr, ha]; exact last_mem e r
    have := (mem_zer this).1
    rw [hd.2] at this; cases this
 have hlen : (zer (topF e r) (restF e r)).length + (ons (topF e r) (restF e r)).length = (restF e r).length := by rw [← List.length_append, ha]
 have hls : (zer (topF e r) (restF e r)).length ≤ r.length ∧ (ons (topF e r) (restF e r)).length ≤ r.length := by
  by_cases hne : e.k = topF e r
  · have : restF e r = r := by unfold restF; exact if_pos hne
    rw [this] at hlen ⊢
    omega
  · have hr : restF e r = e :: r := by unfold restF; exact if_neg hne
    have := htwo hne
    have h1 := List.length_pos_iff.2 this.1
    have h2 := List.length_pos_iff.2 this.2
    rw [hr] at hlen h1 h2 ⊢
    simp only [List.length_cons] at hlen
    omega
 exact ⟨ha, hzp, hop, hls.1, hls.2, (List.pairwise_append.1 hs).1, (List.pairwise_append.1 hs).2.1, htwo, fun x hx => top_pre h hx⟩
def grow (l : List En) : List Nd := growF l.length 0 l
def own (l : List Nd) : List En := (l.filter fun x => !x.v.isEmpty).map fun x => ⟨x.k, x.v⟩
theorem own_app (a b : List Nd) : own (a ++ b) = own a ++ own b := by simp [own]
theorem own_grow : ∀ (n base : Nat) (l : List En), Srt l → l.length ≤ n → (∀ e, e ∈ l → e.v ≠ []) → own (growF n base l) = l
 | n, base, [], _, _, _ => by rw [growF_nil]; rfl
 | 0, base, e :: r, _, h, _ => by simp at h
 | n + 1, base, e :: r, hs, hn, hv => by
  have sp := split_of hs
  simp only [List.length_cons] at hn
  have hvr : ∀ x, x ∈ restF e r → x.v ≠ [] := fun x hx => hv x (rest_mem hx)
  have hz := fun b => own_grow n b _ sp.zs (by have := sp.zl; omega) (fun x hx => hvr x (by rw [← sp.app]; exact List.mem_append_left _ hx))
  have ho := fun b => own_grow n b _ sp.os (by have := sp.ol; omega) (fun x hx => hvr x (by rw [← sp.app]; exact List.mem_append_right _ hx))
  simp only [growF]
  rw [show ∀ (x : Nd) (l : List Nd), x :: l = [x] ++ l from fun _ _ => rfl, own_app, own_app, hz, ho, sp.app]
  have hve := hv e (List.mem_cons_self ..)
  by_cases he : e.k = topF e r
  · have h1 : restF e r = r := by unfold restF; exact if_pos he
    rw [h1, if_pos he, ← he]
    simp [own, hve]
  · have h1 : restF e r = e :: r := by unfold restF; exact if_neg he
    rw [h1, if_neg he]
    simp [own]
theorem grow_pre : ∀ (n base : Nat) (l : List En) (t : Bs), Srt l → l.length ≤ n → (∀ e, e ∈ l → t <+: e.k) → ∀ x, x ∈ growF n base l → t <+: x.k
 | n, base, [], t, _, _, _, x, hx => by rw [growF_nil] at hx; cases hx
 | 0, base, e :: r, t, _, h, _, x, hx => by simp at h
 | n + 1, base, e :: r, t, hs, hn, hp, x, hx => by
  have sp := split_of hs
  simp only [List.length_cons] at hn
  have hpr : ∀ y, y ∈ restF e r → t <+: y.k := fun y hy => hp y (rest_mem hy)
  simp only [growF] at hx
  rcases List.mem_cons.1 hx with rfl | hx
  · exact lcp_max (hp e (List.mem_cons_self ..)) (hp _ (last_mem e r))
  rcases List.mem_append.1 hx with hx | hx
  · exact grow_pre n _ _ t sp.zs (by have := sp.zl; omega) (fun y hy => hpr y (by rw [← sp.app]; exact List.mem_append_left _ hy)) x hx
  · exact grow_pre n _ _ t sp.os (by have := sp.ol; omega) (fun y hy => hpr y (by rw [← sp.app]; exact List.mem_append_right _ hy)) x hx
theorem grow_len : ∀ (n base : Nat) (l : List En), Srt l → l.length ≤ n → l ≠ [] → 1 ≤ (growF n base l).length ∧ (growF n base l).length + 1 ≤ 2 * l.length
 | n, base, [], _, _, h => absurd rfl h
 | 0, base, e :: r, _, h, _ => by simp at h
 | n + 1, base, e :: r, hs, hn, _ => by
  have sp := split_of hs
  simp only [List.length_cons] at hn
  have hz := fun b => grow_len n b _ sp.zs (by have := sp.zl; omega)
  have ho := fun b => grow_len n b _ sp.os (by have := sp.ol; omega)
  simp only [growF, List.length_cons, List.length_append]
  generalize hZ : zer (topF e r) (restF e r) = Z at *
  generalize hO : ons (topF e r) (restF e r) = O at *
  have happ := congrArg List.length sp.app
  rw [List.length_append] at happ
  have hrl : (restF e r).length ≤ r.length + 1 ∧ (e.k = topF e r → (restF e r).length = r.length) := by
   unfold restF
   refine ⟨by split <;> simp, fun h => by rw [if_pos (show e.k = lcp e.k (r.getLastD e).k from h)]⟩
  refine ⟨by omega, ?_⟩
  by_cases hz0 : Z = []
  · by_cases ho0 : O = []
    · subst hz0 ho0
      simp only [growF_nil, List.length_nil]
      omega
    · have h2 := ho (base + 1 + (growF n (base + 1) Z).length) ho0
      have he : e.k = topF e r := Classical.byContradiction fun hc => (sp.two hc).1 hz0
      have := hrl.2 he
      subst hz0
      simp only [growF_nil, List.length_nil] at *
      omega
  · have h1 := hz (base + 1) hz0
    by_cases ho0 : O = []
    · have he : e.k = topF e r := Classical.byContradiction fun hc => (sp.two hc).2 ho0
      have := hrl.2 he
      subst ho0
      simp only [growF_nil, List.length_nil] at *
      omega
    · have h2 := ho (base + 1 + (growF n (base + 1) Z).length) ho0
      omega
def child (x : Nd) (b : Bool) : Int := if b then x.c1 else x.c0
def NodeOk (G : List Nd) (base : Nat) (i : Nat) : Prop := ∀ x, G[i]? = some x → (x.v = [] → 0 ≤ x.c0 ∧ 0 ≤ x.c1) ∧
 ∀ b, child x b = -1 ∨ ∃ j y, child x b = ((base + j : Nat) : Int) ∧ i < j ∧ G[j]? = some y ∧ x.k ++ [b] <+: y.k
theorem grow_head {n base : Nat} {l : List En} (hn : l.length ≤ n) (h : l ≠ []) : ∃ y, (growF n base l)[0]? = some y := by
 cases l with
 | nil => exact absurd rfl h
 | cons e r =>
  cases n with
  | zero => simp at hn
  | succ n => exact ⟨_, rfl⟩
theorem grow_ok : ∀ (n base : Nat) (l : List En), Srt l → l.length ≤ n → (∀ e, e ∈ l → e.v ≠ []) → ∀ i, NodeOk (growF n base l) base i
 | n, base, [], _, _, _, i => by intro x hx; rw [growF_nil] at hx; simp at hx
 | 0, base, e :: r, _, h, _, i => by simp at h
 | n + 1, base, e :: r, hs, hn, hv, i => by
  have sp := split_of hs
  simp only [List.length_cons] at hn
  have hvr : ∀ x, x ∈ restF e r → x.v ≠ [] := fun x hx => hv x (rest_mem hx)
  have hz := fun b => grow_ok n b _ sp.zs (by have := sp.zl; omega) (fun x hx => hvr x (by rw [← sp.app]; exact List.mem_append_left _ hx))
  have ho := fun b => grow_ok n b _ sp.os (by have := sp.ol; omega) (fun x hx => hvr x (by rw [← sp.app]; exact List.mem_append_right _ hx))
  have pz := fun b => grow_pre n b _ _ sp.zs (by have := sp.zl; omega) sp.zp
  have po := fun b => grow_pre n b _ _ sp.os (by have := sp.ol; omega) sp.op
  have gz := fun b => @grow_head n b (zer (topF e r) (restF e r)) (by have := sp.zl; omega)
  have go := fun b => @grow_head n b (ons (topF e r) (restF e r)) (by have := sp.ol; omega)
  have two := sp.two
  intro x hx
  simp only [growF] at hx ⊢
  generalize hZ : zer (topF e r) (restF e r) = Z at *
  generalize hO : ons (topF e r) (restF e r) = O at *
  generalize hgz : growF n (base + 1) Z = GZ at *
  have gz := gz (base + 1); have pz := pz (base + 1); have hz := hz (base + 1)
  rw [hgz] at gz pz hz
  have go := go (base + 1 + GZ.length); have po := po (base + 1 + GZ.length); have ho := ho (base + 1 + GZ.length)
  generalize hgo : growF n (base + 1 + GZ.length) O = GO at *
  cases i with
  | zero =>
   simp only [List.getElem?_cons_zero, Option.some.injEq] at hx
   subst hx
   dsimp only
   constructor
   · intro hv0
     have hne : e.k ≠ topF e r := fun he => by rw [if_pos he] at hv0; exact hv e (List.mem_cons_self ..) hv0
     have := two hne
     unfold ix
     rw [if_neg (by simpa using this.1), if_neg (by simpa using this.2)]
     omega
   · intro b
     cases b
     · show ix Z (base + 1) = -1 ∨ _
       unfold ix
       by_cases hZ0 : Z = []
       · left; simp [hZ0]
       · right
         obtain ⟨y, hy⟩ := gz hZ0
         have hym : y ∈ GZ := List.mem_of_getElem? hy
         refine ⟨1, y, ?_, by omega, ?_, pz y hym⟩
         · show ix Z (base + 1) = _
           unfold ix
           rw [if_neg (by simpa using hZ0)]
         · have hlt : 0 < GZ.length := List.length_pos_of_mem hym
           rw [List.getElem?_cons_succ, List.getElem?_append_left hlt]
           exact hy
     · show ix O (base + 1 + GZ.length) = -1 ∨ _
       unfold ix
       by_cases hO0 : O = []
       · left; simp [hO0]
       · right
         obtain ⟨y, hy⟩ := go hO0
         refine ⟨1 + GZ.length, y, ?_, by omega, ?_, po y (List.mem_of_getElem? hy)⟩
         · show ix O (base + 1 + GZ.length) = _
           unfold ix
           rw [if_neg (by simpa using hO0)]
           omega
         · rw [show 1 + GZ.length = GZ.length + 1 by omega, List.getElem?_cons_succ, List.getElem?_append_right (Nat.le_refl _), Nat.sub_self]
           exact hy
  | succ i =>
   rw [List.getElem?_cons_succ] at hx
   by_cases hi : i < GZ.length
   · rw [List.getElem?_append_left hi] at hx
     obtain ⟨h1, h2⟩ := hz i x hx
     refine ⟨h1, fun b => (h2 b).imp id fun ⟨j, y, e1, e2, e3, e4⟩ => ⟨j + 1, y, by rw [e1]; omega, by omega, ?_, e4⟩⟩
     have : j < GZ.length := (List.getElem?_eq_some_iff.1 e3).1
     rw [List.getElem?_cons_succ, List.getElem?_append_left this]
     exact e3
   · rw [List.getElem?_append_right (by omega)] at hx
     obtain ⟨h1, h2⟩ := ho (i - GZ.length) x hx
     refine ⟨h1, fun b => (h2 b).imp id fun ⟨j, y, e1, e2, e3, e4⟩ => ⟨j + GZ.length + 1, y, by rw [e1]; omega, by omega, ?_, e4⟩⟩
     rw [List.getElem?_cons_succ, List.getElem?_append_right (by omega), Nat.add_sub_cancel]
     exact e3
end Go.Proofs.Ytkfnkiejikhglaa.GD.Trie
namespace Go.Proofs.Ytkfnkiejikhglaa.GD.Trie
def pre (t k : Bs) : Bool := t.isPrefixOf k
theorem pre_iff {t k : Bs} : pre t k = true ↔ t <+: k := List.isPrefixOf_iff_prefix
theorem filter_none {α : Type} {f : α → Bool} {l : List α} (h : ∀ x, x ∈ l → f x = false) : l.filter f = [] := by
 rw [List.filter_eq_nil_iff]
 intro x hx; simp [h x hx]
theorem klt_diff : ∀ {x y : Bs}, klt x y = true → (x <+: y ∧ x.length < y.length) ∨ ∃ t s u, x = t ++ false :: s ∧ y = t ++ true :: u
 | _, [], h => by cases ‹Bs› <;> simp [klt] at h
 | [], b :: y, _ => .inl ⟨List.nil_prefix, by simp⟩
 | a :: x, b :: y, h => by
  have ih := @klt_diff x y
  by_cases hab : a = b
  · subst hab
    have h' : klt x y = true := by cases a <;> simpa [klt] using h
    rcases ih h' with ⟨h1, h2⟩ | ⟨t, s, u, rfl, rfl⟩
    · exact .inl ⟨(List.prefix_cons_inj a).2 h1, by simpa using h2⟩
    · exact .inr ⟨a :: t, s, u, rfl, rfl⟩
  · cases a <;> cases b <;> simp [klt] at h hab
    exact .inr ⟨[], x, y, rfl, rfl⟩
theorem exists_first {P : Nat → Prop} : ∀ (n : Nat), P n → ∃ m, m ≤ n ∧ P m ∧ ∀ j, j < m → ¬ P j := by
 intro n
 induction n using Nat.strongRecOn with
 | _ n ih =>
  intro h
  rcases Classical.em (∃ j, j < n ∧ P j) with ⟨j, hj, hP⟩ | hno
  · obtain ⟨m, h1, h2, h3⟩ := ih j hj hP
    exact ⟨m, by omega, h2, h3⟩
  · exact ⟨n, Nat.le_refl _, h, fun j hj hP => hno ⟨j, hj, hP⟩⟩
theorem nat_lt_bit {x y : Nat} (i : Nat) (h0 : x.testBit i = false) (h1 : y.testBit i = true) (h : ∀ j, i < j → x.testBit j = y.testBit j) : x < y := by
 have e : x / 2 ^ (i + 1) = y / 2 ^ (i + 1) := by
  apply Nat.eq_of_testBit_eq
  intro j
  rw [← Nat.shiftRight_eq_div_pow, ← Nat.shiftRight_eq_div_pow, Nat.testBit_shiftRight, Nat.testBit_shiftRight]
  exact h _ (by omega)
 rw [Nat.testBit_eq_decide_div_mod_eq] at h0 h1
 have h0 : ¬ x / 2 ^ i % 2 = 1 := by simpa using h0
 have h1 : y / 2 ^ i % 2 = 1 := by simpa using h1
 rw [Nat.pow_succ, ← Nat.div_div_eq_div_mul, ← Nat.div_div_eq_div_mul] at e
 have hlt : x / 2 ^ i < y / 2 ^ i := by omega
 rcases Nat.lt_or_ge x y with h2 | h2
 · exact h2
 · have := Nat.div_le_div_right (c := 2 ^ i) h2
   omega
end Go.Proofs.Ytkfnkiejikhglaa.GD.Trie
namespace Go.Proofs.Ytkfnkiejikhglaa.Own
open Go Go.Proofs.Ytkfnkiejikhglaa.GD Go.Proofs.Ytkfnkiejikhglaa.GD.Trie
structure Pf where
 f : Int
 h : Nat
 l : Nat
 n : Nat
deriving Inhabited
abbrev Pf.d (p : Pf) : D := P4 p.f p.h p.l p.n
structure Pf.ok (p : Pf) : Prop where
 r : In64 p.h p.l
 c : checkP p.f p.h p.l p.n = 0
theorem Pf.ok.all {p : Pf} (h : p.ok) : widthF p.f ≠ 0 ∧ addrOk p.f p.h p.l = true ∧ p.n ≤ widthF p.f ∧ cutA p.f p.h p.l (widthF p.f - p.n) = (p.h, p.l) := by
 have := h.c
 unfold checkP at this
 split at this
 · cases this
 · rename_i hw
   split at this
   · rename_i hc
     exact ⟨hw, hc.1, by have := hc.2.2.1; omega, by simpa using hc.2.2.2⟩
   · cases this
theorem Pf.ok.fam {p : Pf} (h : p.ok) : (p.f = 4 ∧ widthF p.f = 32) ∨ (p.f = 6 ∧ widthF p.f = 128) := by
 rcases widthF_cases p.f with h1 | h1
 · exact absurd h1 h.all.1
 · exact h1
def Pf.b (p : Pf) (i : Nat) : Bool := bitK p.h p.l (widthF p.f - 1 - i)
def Pf.bits (p : Pf) : Bs := (List.range p.n).map p.b
theorem Pf.ok.low {p : Pf} (h : p.ok) {k : Nat} (hk : k < widthF p.f - p.n) : bitK p.h p.l k = false := (cut_id h.r).1 h.all.2.2.2 k hk
theorem Pf.ok.far {p : Pf} (h : p.ok) {i : Nat} (h1 : p.n ≤ i) (h2 : i < widthF p.f) : p.b i = false := by
 unfold Pf.b
 exact h.low (by omega)
theorem Pf.len (p : Pf) : p.bits.length = p.n := by simp [Pf.bits]
theorem Pf.get (p : Pf) {i : Nat} (h : i < p.n) : p.bits[i]? = some (p.b i) := by simp [Pf.bits, h]
theorem Pf.bitAt (p : Pf) {i : Nat} (h : i < p.n) : bitAt p.bits i = p.b i := by simp [Trie.bitAt, zq1, p.get h]
theorem Pf.ok.bitAt {p : Pf} (hp : p.ok) {i : Nat} (h : i < widthF p.f) : Trie.bitAt p.bits i = p.b i := by
 by_cases hi : i < p.n
 · exact p.bitAt hi
 · rw [hp.far (by omega) h]
   simp [Trie.bitAt, zq1, Pf.bits, hi]
theorem testBit_far {x : Nat} (h : x < 18446744073709551616) {k : Nat} (hk : 64 ≤ k) : x.testBit k = false :=
 Nat.testBit_lt_two_pow (Nat.lt_of_lt_of_le h (by have : (2 : Nat) ^ 64 ≤ 2 ^ k := Nat.pow_le_pow_right (by omega) hk; simpa using this))
theorem addr4 {h l : Nat} (ha : addrOk 4 h l = true) : h = 0 ∧ l < 4294967296 := by
 unfold addrOk at ha
 simpa using ha
theorem testBit_far32 {x : Nat} (h : x < 4294967296) {k : Nat} (hk : 32 ≤ k) : x.testBit k = false :=
 Nat.testBit_lt_two_pow (Nat.lt_of_lt_of_le h (by have : (2 : Nat) ^ 32 ≤ 2 ^ k := Nat.pow_le_pow_right (by omega) hk; simpa using this))
theorem addr_eq {f : Int} {h l h' l' : Nat} (r : In64 h l) (r' : In64 h' l') (hw : widthF f ≠ 0) (a : addrOk f h l = true) (a' : addrOk f h' l' = true) (he : ∀ k, k < widthF f → bitK h l k = bitK h' l' k) : h = h' ∧ l = l' := by
 have hl : l = l' := by
  apply Nat.eq_of_testBit_eq
  intro k
  rcases widthF_cases f with h1 | ⟨rfl, h1⟩ | ⟨rfl, h1⟩
  · exact absurd h1 hw
  · by_cases hk : k < 32
    · have := he k (by omega)
      unfold bitK at this
      rwa [if_neg (by omega), if_neg (by omega)] at this
    · rw [testBit_far32 (addr4 a).2 (by omega), testBit_far32 (addr4 a').2 (by omega)]
  · by_cases hk : k < 64
    · have := he k (by omega)
      unfold bitK at this
      rwa [if_neg (by omega), if_neg (by omega)] at this
    · rw [testBit_far r.l (by omega), testBit_far r'.l (by omega)]
 refine ⟨?_, hl⟩
 rcases widthF_cases f with h1 | ⟨rfl, h1⟩ | ⟨rfl, h1⟩
 · exact absurd h1 hw
 · rw [(addr4 a).1, (addr4 a').1]
 · apply Nat.eq_of_testBit_eq
   intro k
   by_cases hk : k < 64
   · have := he (k + 64) (by omega)
     unfold bitK at this
     rw [if_pos (by omega), if_pos (by omega)] at this
     simpa using this
   · rw [testBit_far r.h (by omega), testBit_far r'.h (by omega)]
def altP (h l h' l' : Nat) : Prop := h < h' ∨ (h = h' ∧ l < l')
theorem addr_lt {f : Int} {h l h' l' : Nat} (r : In64 h l) (r' : In64 h' l') (a : addrOk f h l = true) (a' : addrOk f h' l' = true) {k : Nat} (hk : k < widthF f) (he : ∀ j, k < j → j < widthF f → bitK h l j = bitK h' l' j)
  (h0 : bitK h l k = false) (h1 : bitK h' l' k = true) : altP h l h' l' := by
 rcases widthF_cases f with hf | ⟨rfl, hf⟩ | ⟨rfl, hf⟩
 · omega
 · obtain ⟨rfl, _⟩ := addr4 a
   obtain ⟨rfl, _⟩ := addr4 a'
   refine .inr ⟨rfl, nat_lt_bit k ?_ ?_ ?_⟩
   · unfold bitK at h0; rwa [if_neg (by omega)] at h0
   · unfold bitK at h1; rwa [if_neg (by omega)] at h1
   · intro j hj
     by_cases hj2 : j < 32
     · have := he j hj (by omega)
       unfold bitK at this
       rwa [if_neg (by omega), if_neg (by omega)] at this
     · rw [testBit_far32 (addr4 a).2 (by omega), testBit_far32 (addr4 a').2 (by omega)]
 · by_cases hk2 : 63 < k
   · refine .inl (nat_lt_bit (k - 64) ?_ ?_ ?_)
     · unfold bitK at h0; rwa [if_pos hk2] at h0
     · unfold bitK at h1; rwa [if_pos hk2] at h1
     · intro j hj
       by_cases hj2 : j < 64
       · have := he (j + 64) (by omega) (by omega)
         unfold bitK at this
         rw [if_pos (by omega), if_pos (by omega)] at this
         simpa using this
       · rw [testBit_far r.h (by omega), testBit_far r'.h (by omega)]
   · refine .inr ⟨?_, nat_lt_bit k ?_ ?_ ?_⟩
     · apply Nat.eq_of_testBit_eq
       intro j
       by_cases hj : j < 64
       · have := he (j + 64) (by omega) (by omega)
         unfold bitK at this
         rw [if_pos (by omega), if_pos (by omega)] at this
         simpa using this
       · rw [testBit_far r.h (by omega), testBit_far r'.h (by omega)]
     · unfold bitK at h0; rwa [if_neg hk2] at h0
     · unfold bitK at h1; rwa [if_neg hk2] at h1
     · intro j hj
       by_cases hj2 : j < 64
       · have := he j hj (by omega)
         unfold bitK at this
         rwa [if_neg (by omega), if_neg (by omega)] at this
       · rw [testBit_far r.l (by omega), testBit_far r'.l (by omega)]
theorem bits_pre {p q : Pf} (h : p.bits <+: q.bits) : p.n ≤ q.n ∧ ∀ i, i < p.n → p.b i = q.b i := by
 have hl := h.length_le
 rw [p.len, q.len] at hl
 refine ⟨hl, fun i hi => ?_⟩
 obtain ⟨s, hs⟩ := h
 have h1 := p.get hi
 have h2 := q.get (show i < q.n by omega)
 rw [← hs, List.getElem?_append_left (by rw [p.len]; exact hi), h1] at h2
 exact Option.some.inj h2
theorem b_of {p q : Pf} (hf : p.f = q.f) {k : Nat} (hk : k < widthF p.f) (h : p.b (widthF p.f - 1 - k) = q.b (widthF p.f - 1 - k)) : bitK p.h p.l k = bitK q.h q.l k := by
 unfold Pf.b at h
 rw [← hf, show widthF p.f - 1 - (widthF p.f - 1 - k) = k by omega] at h
 exact h
theorem pf_inj {p q : Pf} (hp : p.ok) (hq : q.ok) (hf : p.f = q.f) (hb : p.bits = q.bits) : p = q := by
 have hn : p.n = q.n := by rw [← p.len, ← q.len, hb]
 have h1 := (bits_pre (p := p) (q := q) (by rw [hb]; exact List.prefix_refl _)).2
 have := addr_eq hp.r hq.r hp.all.1 hp.all.2.1 (by rw [hf]; exact hq.all.2.1) (fun k hk => b_of hf hk (by
  by_cases hi : widthF p.f - 1 - k < p.n
  · exact h1 _ hi
  · rw [hp.far (by omega) (by omega), hq.far (by omega) (by rw [← hf]; omega)]))
 obtain ⟨f, h, l, n⟩ := p
 obtain ⟨f', h', l', n'⟩ := q
 dsimp only at *
 rw [hf, hn, this.1, this.2]
def Pf.cut (p : Pf) (m : Nat) : Pf := ⟨p.f, (cutA p.f p.h p.l (widthF p.f - m)).1, (cutA p.f p.h p.l (widthF p.f - m)).2, m⟩
theorem bitK_cut {f : Int} {h l n k : Nat} : bitK (cutA f h l n).1 (cutA f h l n).2 k = (decide (n ≤ k) && bitK h l k) := by
 unfold cutA bitK
 by_cases hn : 64 ≤ n
 · rw [if_pos hn]
   dsimp only
   by_cases hk : 63 < k
   · rw [if_pos hk, if_pos hk, testBit_clr]
     congr 1
     apply decide_eq_decide.2; omega
   · rw [if_neg hk, if_neg hk]
     simp
     intro h; omega
 · rw [if_neg hn]
   dsimp only
   by_cases hk : 63 < k
   · rw [if_pos hk, if_pos hk]
     have : n ≤ k := by omega
     simp [this]
   · rw [if_neg hk, if_neg hk, testBit_clr]
theorem cut_rng {f : Int} {h l n : Nat} (r : In64 h l) : In64 (cutA f h l n).1 (cutA f h l n).2 := by
 unfold cutA
 split
 · exact ⟨clr_lt r.h, by show (0 : Nat) < _; omega⟩
 · exact ⟨r.h, clr_lt r.l⟩
theorem cut_addr {f : Int} {h l n : Nat} (a : addrOk f h l = true) : addrOk f (cutA f h l n).1 (cutA f h l n).2 = true := by
 unfold addrOk at a ⊢
 split
 · rfl
 · rename_i hf
   rw [if_neg hf] at a
   simp only [decide_eq_true_eq] at a ⊢
   obtain ⟨h1, rfl, h3⟩ := a
   unfold cutA
   split
   · exact ⟨h1, Nat.le_zero.1 (clr_le _ _), by show (0 : Nat) < _; omega⟩
   · exact ⟨h1, rfl, clr_lt h3⟩
theorem cut_ok {p : Pf} (hr : In64 p.h p.l) (hw : widthF p.f ≠ 0) (ha : addrOk p.f p.h p.l = true) {m : Nat} (hm : m ≤ widthF p.f) : (p.cut m).ok := by
 have hc : cutA p.f (cutA p.f p.h p.l (widthF p.f - m)).1 (cutA p.f p.h p.l (widthF p.f - m)).2 (widthF p.f - m) = ((cutA p.f p.h p.l (widthF p.f - m)).1, (cutA p.f p.h p.l (widthF p.f - m)).2) := by
  refine (cut_id (cut_rng hr)).2 fun k hk => ?_
  rw [bitK_cut]
  have : ¬ widthF p.f - m ≤ k := by omega
  simp [this]
 refine ⟨cut_rng hr, ?_⟩
 unfold Pf.cut checkP
 dsimp only
 rw [if_neg hw, if_pos ⟨cut_addr ha, by omega, by omega, by rw [Int.toNat_natCast]; exact hc⟩]
theorem cut_bits {p : Pf} {m : Nat} (hm : m ≤ p.n) (hn : p.n ≤ widthF p.f) : (p.cut m).bits = p.bits.take m := by
 apply List.ext_getElem?
 intro i
 by_cases hi : i < m
 · rw [(p.cut m).get (show i < (p.cut m).n from hi), List.getElem?_take_of_lt hi, p.get (by omega)]
   unfold Pf.b Pf.cut
   dsimp only
   rw [bitK_cut]
   have : widthF p.f - m ≤ widthF p.f - 1 - i := by omega
   simp [this]
 · rw [List.getElem?_eq_none (by rw [(p.cut m).len]; show m ≤ i; omega), List.getElem?_eq_none (by rw [List.length_take]; omega)]
def ordP (p q : Pf) : Int := if p.f < q.f then -1 else if q.f < p.f then 1 else if klt p.bits q.bits = true then -1 else if klt q.bits p.bits = true then 1 else 0
theorem klt_addr {p q : Pf} (hp : p.ok) (hq : q.ok) (hf : p.f = q.f) (h : klt p.bits q.bits = true) : altP p.h p.l q.h q.l ∨ (p.h = q.h ∧ p.l = q.l ∧ p.n < q.n) := by
 have first : ∀ i, i < widthF p.f → (∀ j, j < i → p.b j = q.b j) → p.b i = false → q.b i = true → altP p.h p.l q.h q.l := by
  intro i hi he h0 h1
  refine addr_lt hp.r hq.r hp.all.2.1 (by rw [hf]; exact hq.all.2.1) (k := widthF p.f - 1 - i) (by omega) (fun j hj hw => b_of hf hw (he _ (by omega))) h0 ?_
  unfold Pf.b at h1; rwa [← hf] at h1
 have hpn := hp.all.2.2.1
 have hqn := hq.all.2.2.1
 rcases klt_diff h with ⟨hpre, hlen⟩ | ⟨t, s, u, e1, e2⟩
 · rw [p.len, q.len] at hlen
   have hb := (bits_pre hpre).2
   rcases Classical.em (∃ i, i < widthF p.f ∧ p.b i ≠ q.b i) with ⟨i, hi⟩ | hno
   · obtain ⟨m, h1, ⟨h2, h2'⟩, h3⟩ := exists_first (P := fun i => i < widthF p.f ∧ p.b i ≠ q.b i) i hi
     have hm : p.n ≤ m := by
      rcases Nat.lt_or_ge m p.n with hlt | hge
      · exact absurd (hb m hlt) h2'
      · exact hge
     have hz := hp.far hm h2
     refine .inl (first m h2 (fun j hj => Classical.byContradiction fun hc => h3 j hj ⟨by omega, hc⟩) hz ?_)
     cases hqb : q.b m
     · rw [hz, hqb] at h2'; exact absurd rfl h2'
     · rfl
   · have := addr_eq hp.r hq.r hp.all.1 hp.all.2.1 (by rw [hf]; exact hq.all.2.1) (fun k hk => b_of hf hk (Classical.byContradiction fun hc => hno ⟨_, by omega, hc⟩))
     exact .inr ⟨this.1, this.2, hlen⟩
 · have l1 := p.len; have l2 := q.len
   rw [e1] at l1; rw [e2] at l2
   simp at l1 l2
   have g : ∀ i, i ≤ t.length → p.bits[i]? = some (p.b i) ∧ q.bits[i]? = some (q.b i) := fun i hi => ⟨p.get (by omega), q.get (by omega)⟩
   refine .inl (first t.length (by omega) (fun j hj => ?_) ?_ ?_)
   · have := g j (by omega)
     rw [e1, e2, List.getElem?_append_left hj, List.getElem?_append_left hj] at this
     exact Option.some.inj (this.1.symm.trans this.2)
   · have := (g t.length (Nat.le_refl _)).1
     rw [e1, List.getElem?_append_right (Nat.le_refl _), Nat.sub_self] at this
     exact (Option.some.inj this).symm
   · have := (g t.length (Nat.le_refl _)).2
     rw [e2, List.getElem?_append_right (Nat.le_refl _), Nat.sub_self] at this
     exact (Option.some.inj this).symm
end Go.Proofs.Ytkfnkiejikhglaa.Own
namespace Go.Proofs.Ytkfnkiejikhglaa.Own
open Go Go.Proofs.Ytkfnkiejikhglaa.GD Go.Proofs.Ytkfnkiejikhglaa.GD.Trie
def bi (b : Bool) : Int := if b = true then 1 else 0
theorem bit_and {x k m : Nat} (hx : x < 18446744073709551616) (hk : m = k) : IntKind.i64.wrap (IntKind.u64.wrap (BitVec.ofInt (IntKind.u64).bits (Int.fdiv (x : Int) (2 ^ m)) &&& BitVec.ofInt (IntKind.u64).bits 1).toNat) = bi (x.testBit k) := by
 subst hk
 have h1 : Int.fdiv (x : Int) (2 ^ m) = ((x / 2 ^ m : Nat) : Int) := by
  rw [Int.fdiv_eq_ediv_of_nonneg _ (Int.le_of_lt (Int.pow_pos (by omega)))]
  simp
 have h2 : x / 2 ^ m < 18446744073709551616 := Nat.lt_of_le_of_lt (Nat.div_le_self _ _) hx
 have h3 := and_u64 h2 (show 1 < 18446744073709551616 by omega)
 rw [h1, show (1 : Int) = ((1 : Nat) : Int) from rfl, h3, Nat.and_one_is_mod, testBit_mod]
 unfold bi
 split <;> rfl
theorem nbit_ok {f : Int} {h l : Nat} (r : In64 h l) (ha : addrOk f h l = true) (hw : widthF f ≠ 0) (i : Nat) : Cl ty tab 60 [.int .u8 f, A64 h l, .int .i64 i] = some (if i < widthF f then [.int .i64 (bi (bitK h l (widthF f - 1 - i))), .int .i64 0] else [.int .i64 0, .int .i64 2]) := by
 refine s_number_Bit 0 _ _ _ _ ?_
 unfold number_Bit
 have hw2 : widthF f ≤ 128 := by rcases widthF_cases f with h | ⟨_, h⟩ | ⟨_, h⟩ <;> omega
 by_cases hi : i < widthF f
 · rw [if_pos hi]
   have h1 : ¬ (i : Int) < 0 := by omega
   have h2 : ¬ ((widthF f : Nat) : Int) ≤ (i : Int) := by omega
   by_cases hk : 63 < widthF f - 1 - i
   · have h3 : (64 : Int) ≤ ((widthF f : Nat) : Int) - 1 - i := by omega
     have h4 : ¬ ((widthF f : Nat) : Int) - 1 - i - 64 < 0 := by omega
     have h5 : min (((widthF f : Nat) : Int) - 1 - i - 64).toNat IntKind.u64.bits = widthF f - 1 - i - 64 := by show min _ 64 = _; omega
     have hb := bit_and r.h h5
     unfold bitK
     rw [if_pos hk]
     simp (disch := omega) only [gds, addr_ok, width_ok, ha, h1, h2, h3, h4, hb]
   · have h3 : ¬ (64 : Int) ≤ ((widthF f : Nat) : Int) - 1 - i := by omega
     have h4 : ¬ ((widthF f : Nat) : Int) - 1 - i < 0 := by omega
     have h5 : min (((widthF f : Nat) : Int) - 1 - i).toNat IntKind.u64.bits = widthF f - 1 - i := by show min _ 64 = _; omega
     have hb := bit_and r.l h5
     unfold bitK
     rw [if_neg hk]
     simp (disch := omega) only [gds, addr_ok, width_ok, ha, h1, h2, h3, h4, hb]
 · rw [if_neg hi]
   have h1 : ¬ (i : Int) < 0 := by omega
   have h2 : ((widthF f : Nat) : Int) ≤ (i : Int) := by omega
   simp (disch := omega) only [gds, addr_ok, width_ok, ha, h1, h2]
theorem tbit_ok {p : Pf} (hp : p.ok) (i : Nat) : Cl ty tab 86 [p.d, .int .i64 i] = some [.int .i64 (bi (Trie.bitAt p.bits i))] := by
 refine s_trie_bit 0 _ _ _ _ _ ?_
 unfold trie_bit
 have hb := nbit_ok hp.r hp.all.2.1 hp.all.1 i
 by_cases hi : i < widthF p.f
 · rw [if_pos hi] at hb
   rw [hp.bitAt hi]
   simp (disch := omega) only [gds, hb]
   rfl
 · rw [if_neg hi] at hb
   have : Trie.bitAt p.bits i = false := by
    have := hp.all.2.2.1
    simp [Trie.bitAt, zq1, List.getElem?_eq_none (show p.bits.length ≤ i by rw [p.len]; omega)]
   rw [this]
   simp (disch := omega) only [gds, hb, Int.reduceEq]
   rfl
theorem cutp_ok {p : Pf} (hr : In64 p.h p.l) (hw : widthF p.f ≠ 0) (ha : addrOk p.f p.h p.l = true) {m : Nat} (hm : m ≤ widthF p.f) : Cl ty tab 115 [.int .u8 p.f, A64 p.h p.l, .int .i64 m] = some [(p.cut m).d, .int .i64 0] := by
 refine s_number_Cut 0 _ _ _ _ ?_
 unfold number_Cut
 have hf : p.f = 4 ∨ p.f = 6 := by rcases widthF_cases p.f with h | ⟨h, _⟩ | ⟨h, _⟩; exact absurd h hw; exact .inl h; exact .inr h
 obtain ⟨mh, ml, hmr, hmask, hcut⟩ := mask_ok p.f (m : Int) hf (by omega) (by omega)
 have hc := hcut p.h p.l hr ha
 have hand := and_ok p.h p.l mh ml hr hmr
 have h1 : ¬ (m : Int) < 0 := by omega
 have h2 : ¬ ((widthF p.f : Nat) : Int) < (m : Int) := by omega
 rw [Int.toNat_natCast] at hc
 have e : (p.cut m).d = P4 p.f (p.h &&& mh) (p.l &&& ml) m := by
  unfold Pf.cut Pf.d
  rw [← hc]
 rw [e]
 simp (disch := omega) only [gds, addr_ok, width_ok, ha, h1, h2, hmask, hand]
theorem covers_ok {p q : Pf} (hp : p.ok) (hq : q.ok) : Cl ty tab 29 [p.d, q.d] = some [.bool (decide (p.f = q.f) && pre p.bits q.bits)] := by
 refine s_number_Covers 0 _ _ _ _ _ _ _ _ ?_
 unfold number_Covers
 have c1 := check_prefix_ok p.f p.h p.l p.n hp.r
 have c2 := check_prefix_ok q.f q.h q.l q.n hq.r
 rw [hp.c] at c1
 rw [hq.c] at c2
 by_cases hf : p.f = q.f
 · by_cases hn : p.n ≤ q.n
   · have hw := hp.all.1
     have hf4 : p.f = 4 ∨ p.f = 6 := by rcases hp.fam with ⟨h, _⟩ | ⟨h, _⟩; exact .inl h; exact .inr h
     obtain ⟨mh, ml, hmr, hmask, hcut⟩ := mask_ok p.f (p.n : Int) hf4 (by omega) (by have := hp.all.2.2.1; omega)
     have hc := hcut q.h q.l hq.r (by rw [hf]; exact hq.all.2.1)
     rw [Int.toNat_natCast] at hc
     have hand := and_ok q.h q.l mh ml hq.r hmr
     have hcb := cut_bits (p := q) hn hq.all.2.2.1
     have hqc := cut_ok (p := q) hq.r hq.all.1 hq.all.2.1 (m := p.n) (by have := hq.all.2.2.1; omega)
     have h1 : ¬ (q.n : Int) < (p.n : Int) := by omega
     have hres : (decide (((q.h &&& mh : Nat) : Int) = p.h) && decide (((q.l &&& ml : Nat) : Int) = p.l)) = pre p.bits q.bits := by
      have hx : (q.cut p.n).h = q.h &&& mh ∧ (q.cut p.n).l = q.l &&& ml := by
       unfold Pf.cut
       dsimp only
       rw [← hf, ← hc]
       exact ⟨rfl, rfl⟩
      cases hpr : pre p.bits q.bits
      · rw [Bool.eq_false_iff]
        intro hcon
        simp only [zq3, decide_eq_true_eq] at hcon
        have e : q.cut p.n = p := by
         obtain ⟨e1, e2⟩ := hx
         have h3 : (q.cut p.n).f = p.f := hf.symm
         have h4 : (q.cut p.n).n = p.n := rfl
         generalize q.cut p.n = z at *
         obtain ⟨f, h, l, n⟩ := z
         obtain ⟨f', h', l', n'⟩ := p
         dsimp only at *
         rw [h3, h4, e1, e2, Int.ofNat_inj.1 hcon.1, Int.ofNat_inj.1 hcon.2]
        rw [e] at hcb
        have : pre p.bits q.bits = true := pre_iff.2 (by rw [hcb]; exact List.take_prefix ..)
        rw [hpr] at this; cases this
      · have h3 := pre_iff.1 hpr
        rw [List.prefix_iff_eq_take, p.len, ← hcb] at h3
        have e := pf_inj hp hqc hf h3
        have e1 : p.h = q.h &&& mh := by rw [← hx.1, ← e]
        have e2 : p.l = q.l &&& ml := by rw [← hx.2, ← e]
        rw [← e1, ← e2]
        simp
     rw [← hres]
     rw [hf] at hmask c1
     simp (disch := omega) only [gds, c1, c2, hf, h1, hmask, hand]
   · have h1 : (q.n : Int) < (p.n : Int) := by omega
     have : pre p.bits q.bits = false := by
      cases hc : pre p.bits q.bits
      · rfl
      · have := (pre_iff.1 hc).length_le
        rw [p.len, q.len] at this; omega
     rw [this]
     rw [hf] at c1
     simp (disch := omega) only [gds, c1, c2, hf, h1]
 · simp (disch := omega) only [gds, c1, c2, hf]
theorem bitAt_lcp {x y : Bs} : ∀ {i : Nat}, i < (lcp x y).length → Trie.bitAt x i = Trie.bitAt y i := by
 intro i hi
 obtain ⟨s, hs⟩ := lcp_pre1 x y
 obtain ⟨u, hu⟩ := lcp_pre2 x y
 have e1 : x[i]? = (lcp x y)[i]? := by rw [← List.getElem?_append_left hi (l₂ := s), hs]
 have e2 : y[i]? = (lcp x y)[i]? := by rw [← List.getElem?_append_left hi (l₂ := u), hu]
 unfold Trie.bitAt
 rw [zq1, zq1, e1, e2]
theorem lcp_stop {x y : Bs} (h1 : (lcp x y).length < x.length) (h2 : (lcp x y).length < y.length) : Trie.bitAt x (lcp x y).length ≠ Trie.bitAt y (lcp x y).length := by
 intro hc
 have p1 : lcp x y ++ [Trie.bitAt x (lcp x y).length] <+: x := by
  obtain ⟨s, hs⟩ := lcp_pre1 x y
  generalize lcp x y = t at *
  subst hs
  cases s with
  | nil => simp at h1
  | cons b s => rw [Trie.bitAt_app]; exact ⟨s, by simp⟩
 have p2 : lcp x y ++ [Trie.bitAt y (lcp x y).length] <+: y := by
  obtain ⟨s, hs⟩ := lcp_pre2 x y
  generalize lcp x y = t at *
  subst hs
  cases s with
  | nil => simp at h2
  | cons b s => rw [Trie.bitAt_app]; exact ⟨s, by simp⟩
 rw [hc] at p1
 have := (lcp_max p1 p2).length_le
 simp at this
 omega
theorem bi_eq (a b : Bool) : (bi a = bi b) ↔ a = b := by cases a <;> cases b <;> simp [bi]
theorem trunk_ok {p q : Pf} (hp : p.ok) (hq : q.ok) (hf : p.f = q.f) : Cl ty tab 105 [p.d, q.d] = some [(p.cut (lcp p.bits q.bits).length).d] := by
 obtain ⟨k, hk⟩ := rounds
 refine s_trie_trunk k _ _ _ _ _ _ _ _ ?_
 unfold trie_trunk
 have l1 := (lcp_pre1 p.bits q.bits).length_le
 have l2 := (lcp_pre2 p.bits q.bits).length_le
 rw [p.len] at l1
 rw [q.len] at l2
 have hpn := hp.all.2.2.1
 have hw2 : widthF p.f ≤ 128 := by rcases hp.fam with ⟨_, h⟩ | ⟨_, h⟩ <;> omega
 have key := @lcp_stop p.bits q.bits
 rw [p.len, q.len] at key
 have same := @bitAt_lcp p.bits q.bits
 generalize hL : (lcp p.bits q.bits).length = N at *
 have hcut := fun m (hm : m ≤ widthF p.f) => cutp_ok (p := p) hp.r hp.all.1 hp.all.2.1 hm
 have tp := tbit_ok hp
 have tq := tbit_ok hq
 have := iter_ix (F := trie_trunk.b0 (Cl ty tab) k) N (fun i => [.int .i64 i, .pv [.int .u8 p.f, .int .u64 (p.h : Int), .int .u64 (p.l : Int), .int .i64 (p.n : Int)], .pv [.int .u8 q.f, .int .u64 (q.h : Int), .int .u64 (q.l : Int), .int .i64 (q.n : Int)], .pv [.int .u8 0, .int .u64 0, .int .u64 0, .int .i64 0]])
  (fun _ => some [(p.cut N).d]) (fun i hi again ha => ?_) (fun again => ?_) k (by omega) 0 (by omega)
 · exact this
 · unfold trie_trunk.b0
   have h1 : (i : Int) < (if (q.n : Int) < (p.n : Int) then (q.n : Int) else p.n) := by split <;> omega
   have h2 := same hi
   simp (disch := omega) only [gds, tp, tq, h1, h2, Int.natCast_add, Int.natCast_one] at ha ⊢
   exact ha
 · unfold trie_trunk.b0
   by_cases h1 : (N : Int) < (if (q.n : Int) < (p.n : Int) then (q.n : Int) else p.n)
   · have h2 : N < p.n ∧ N < q.n := by split at h1 <;> omega
     have h3 := key h2.1 h2.2
     have h4 : ¬ bi (Trie.bitAt p.bits N) = bi (Trie.bitAt q.bits N) := by rw [bi_eq]; exact h3
     simp (disch := omega) only [gds, tp, tq, h1, h4, hcut]
   · simp (disch := omega) only [gds, h1, hcut]
theorem trunk_bits {p q : Pf} (hp : p.ok) (hq : q.ok) : (p.cut (lcp p.bits q.bits).length).ok ∧ (p.cut (lcp p.bits q.bits).length).bits = lcp p.bits q.bits := by
 have l1 := (lcp_pre1 p.bits q.bits).length_le
 rw [p.len] at l1
 have hpn := hp.all.2.2.1
 refine ⟨cut_ok hp.r hp.all.1 hp.all.2.1 (by omega), ?_⟩
 rw [cut_bits l1 hpn]
 have := List.prefix_iff_eq_take.1 (lcp_pre1 p.bits q.bits)
 exact this.symm
theorem nan8 (x : Int) : Cl ty tab 127 [.int .u8 x] = some [.bool false] := by
 refine s_cmp_isNaN_127 0 x ?_
 unfold cmp_isNaN_127
 simp
theorem nan64 (x : Int) : Cl ty tab 134 [.int .u64 x] = some [.bool false] := by
 refine s_cmp_isNaN_134 0 x ?_
 unfold cmp_isNaN_134
 simp
theorem nani (x : Int) : Cl ty tab 107 [.int .i64 x] = some [.bool false] := by
 refine s_cmp_isNaN_107 0 x ?_
 unfold cmp_isNaN_107
 simp
def sgnT (a b : Int) : Int := if a < b then -1 else if b < a then 1 else 0
theorem cmp8 (x y : Int) : Cl ty tab 112 [.int .u8 x, .int .u8 y] = some [.int .i64 (sgnT x y)] := by
 refine s_cmp_Compare_112 0 x y ?_
 unfold cmp_Compare_112 sgnT
 by_cases h1 : x < y
 · simp (disch := omega) only [gds, nan8, h1]
 · by_cases h2 : y < x
   · simp (disch := omega) only [gds, nan8, h1, h2]
   · simp (disch := omega) only [gds, nan8, h1, h2]
theorem cmp64 (x y : Int) : Cl ty tab 128 [.int .u64 x, .int .u64 y] = some [.int .i64 (sgnT x y)] := by
 refine s_cmp_Compare_128 0 x y ?_
 unfold cmp_Compare_128 sgnT
 by_cases h1 : x < y
 · simp (disch := omega) only [gds, nan64, h1]
 · by_cases h2 : y < x
   · simp (disch := omega) only [gds, nan64, h1, h2]
   · simp (disch := omega) only [gds, nan64, h1, h2]
theorem cmpi (x y : Int) : Cl ty tab 114 [.int .i64 x, .int .i64 y] = some [.int .i64 (sgnT x y)] := by
 refine s_cmp_Compare_114 0 x y ?_
 unfold cmp_Compare_114 sgnT
 by_cases h1 : x < y
 · simp (disch := omega) only [gds, nani, h1]
 · by_cases h2 : y < x
   · simp (disch := omega) only [gds, nani, h1, h2]
   · simp (disch := omega) only [gds, nani, h1, h2]
def sgnA (h l h' l' : Nat) : Int := if sgnT h h' ≠ 0 then sgnT h h' else sgnT l l'
theorem ncmp_ok (h l h' l' : Nat) : Cl ty tab 113 [A64 h l, A64 h' l'] = some [.int .i64 (sgnA h l h' l')] := by
 refine s_number_Compare 0 _ _ _ _ ?_
 unfold number_Compare sgnA
 by_cases h1 : sgnT (h : Int) h' = 0
 · simp (disch := omega) only [gds, cmp64, h1]
 · simp (disch := omega) only [gds, cmp64, h1]
theorem or_ok (a b c : Int) : Cl ty tab 111 [.sl 3 false [.int .i64 a, .int .i64 b, .int .i64 c]] = some [.int .i64 (if a ≠ 0 then a else if b ≠ 0 then b else c)] := by
 refine s_cmp_Or 5 _ _ ?_
 unfold cmp_Or
 have iter_s : ∀ {R : Type} (k : Nat) (F : List D → (List D → Option R) → Option R) (vs : List D), iter (k + 1) F vs = F vs (iter k F) := fun _ _ _ => rfl
 by_cases ha : a = 0 <;> by_cases hb : b = 0 <;> by_cases hc : c = 0 <;>
  simp (disch := omega) only [gds, iter_s, cmp_Or.b0, ha, hb, hc, ne_eq, not_true_eq_false, not_false_eq_true, Int.reduceToNat, Int.reduceAdd, Int.reduceLT, Int.reduceLE, Int.zero_add, Int.reduceNeg, Nat.reduceAdd] <;> simp [IntKind.wrap_i64, iter_s, cmp_Or.b0, ha, hb, hc]
def cmpR (f : Int) (h l : Nat) (n : Int) (f' : Int) (h' l' : Nat) (n' : Int) : Int := if sgnT f f' ≠ 0 then sgnT f f' else if sgnA h l h' l' ≠ 0 then sgnA h l h' l' else sgnT n n'
theorem order_raw (f : Int) (h l : Nat) (n : Int) (f' : Int) (h' l' : Nat) (n' : Int) : Cl ty tab 103 [P4 f h l n, P4 f' h' l' n'] = some [.int .i64 (cmpR f h l n f' h' l' n')] := by
 refine s_trie_order 0 _ _ _ _ _ _ _ _ ?_
 unfold trie_order cmpR
 simp (disch := omega) only [gds, cmp8, ncmp_ok, cmpi, or_ok]
theorem cmpR_ok {p q : Pf} (hp : p.ok) (hq : q.ok) : cmpR p.f p.h p.l p.n q.f q.h q.l q.n = ordP p q := by
 unfold cmpR
 unfold ordP
 by_cases h1 : p.f < q.f
 · simp [sgnT, h1]
 rw [if_neg h1]
 by_cases h2 : q.f < p.f
 · simp [sgnT, h1, h2]
 rw [if_neg h2]
 have hf : p.f = q.f := by omega
 have h3 : sgnT p.f q.f = 0 := by simp [sgnT, hf]
 rw [h3]
 simp only [ne_eq, not_true_eq_false, if_false]
 rcases klt_tri p.bits q.bits with h | h | h
 · rw [if_pos h]
   rcases klt_addr hp hq hf h with ha | ⟨e1, e2, e3⟩
   · unfold altP at ha
     have : sgnA p.h p.l q.h q.l = -1 := by
      unfold sgnA sgnT
      rcases ha with ha | ⟨ha, hb⟩
      · have : (p.h : Int) < q.h := by omega
        simp [this]
      · have : (p.l : Int) < q.l := by omega
        simp [ha, this]
     rw [this]; rfl
   · have e3' : (p.n : Int) < q.n := by omega
     simp [sgnA, sgnT, e1, e2, e3']
 · have := pf_inj hp hq hf h
   subst this
   simp [sgnA, sgnT, klt_irrefl]
 · rw [klt_asymm h, h]
   simp only [Bool.false_eq_true, if_false, if_true]
   rcases klt_addr hq hp hf.symm h with ha | ⟨e1, e2, e3⟩
   · unfold altP at ha
     have : sgnA p.h p.l q.h q.l = 1 := by
      unfold sgnA sgnT
      rcases ha with ha | ⟨ha, hb⟩
      · have h5 : (q.h : Int) < p.h := by omega
        have h6 : ¬ (p.h : Int) < q.h := by omega
        simp [h5, h6]
      · have h5 : (q.l : Int) < p.l := by omega
        have h6 : ¬ (p.l : Int) < q.l := by omega
        simp [ha, h5, h6]
     rw [this]; rfl
   · have h5 : (q.n : Int) < p.n := by omega
     have h6 : ¬ (p.n : Int) < q.n := by omega
     simp [sgnA, sgnT, e1, e2, h5, h6]
theorem ordP_lt {p q : Pf} : ordP p q < 0 ↔ p.f < q.f ∨ (p.f = q.f ∧ klt p.bits q.bits = true) := by
 unfold ordP
 by_cases h1 : p.f < q.f
 · simp [h1]
 · by_cases h2 : q.f < p.f
   · have : ¬ p.f = q.f := by omega
     simp [h1, h2, this]
   · have : p.f = q.f := by omega
     cases h3 : klt p.bits q.bits
     · simp [h1, h2, h3]
       split <;> omega
     · simp [h1, h2, h3, this]
end Go.Proofs.Ytkfnkiejikhglaa.Own
namespace Go.Proofs.Ytkfnkiejikhglaa.GD
section
open Go Go.Sort
section
variable {α : Type} (E : α → D)
def ar (d : Array α) : List D := d.toList.map E
theorem ar_length (d : Array α) : (ar E d).length = d.size := by simp [ar]
theorem ar_of (l : List α) : ar E l.toArray = l.map E := by simp [ar]
variable [Inhabited α]
theorem ar_get {d : Array α} {i : Nat} (h : i < d.size) : (ar E d).getD i .undef = E d[i]! := by
 simp [ar, zq1, h]
theorem ar_swp (d : Array α) (i j : Nat) : ((ar E d).set i (E d[j]!)).set j (E d[i]!) = ar E (swp d i j) := by
 simp [ar, swp, List.map_set]
end
theorem sz_swp {α : Type} [Inhabited α] (d : Array α) (i j : Nat) : (swp d i j).size = d.size := by simp [swp]
section
variable {α : Type} [Inhabited α] (lt : α → α → Bool)
theorem insInner_stop {a j : Nat} {d : Array α} (h : j ≤ a) : insInner lt a j d = d := by
 cases j with
 | zero => rfl
 | succ j => unfold insInner; rw [if_neg]; simp; omega
theorem insInner_yes {a j : Nat} {d : Array α} (h : a < j) (hl : lt d[j]! d[j - 1]! = true) : insInner lt a j d = insInner lt a (j - 1) (swp d j (j - 1)) := by
 obtain ⟨j, rfl⟩ : ∃ i, j = i + 1 := ⟨j - 1, by omega⟩
 simp only [Nat.add_sub_cancel] at hl ⊢
 conv => lhs; unfold insInner
 rw [if_pos]; simp [hl]; omega
theorem insInner_no {a j : Nat} {d : Array α} (hl : lt d[j]! d[j - 1]! = false) : insInner lt a j d = d := by
 cases j with
 | zero => rfl
 | succ j => simp only [Nat.add_sub_cancel] at hl; unfold insInner; rw [if_neg]; simp [hl]
theorem insOuter_go {a b i : Nat} {d : Array α} (h : i < b) : insOuter lt a b i d = insOuter lt a b (i + 1) (insInner lt a i d) := by
 conv => lhs; unfold insOuter
 rw [if_pos h]
theorem insOuter_end {a b i : Nat} {d : Array α} (h : b ≤ i) : insOuter lt a b i d = d := by
 unfold insOuter
 rw [if_neg (by omega)]
theorem sz_insInner (a : Nat) : ∀ (j : Nat) (d : Array α), (insInner lt a j d).size = d.size
 | 0, _ => rfl
 | j + 1, d => by
  unfold insInner
  split
  · rw [sz_insInner a j, sz_swp]
  · rfl
theorem siftDown_end {hi first root : Nat} {d : Array α} (h : hi ≤ 2 * root + 1) : siftDown lt hi first root d = d := by
 unfold siftDown; rw [dif_pos h]
def child (hi first root : Nat) (d : Array α) : Nat := if 2 * root + 1 + 1 < hi ∧ lt d[first + (2 * root + 1)]! d[first + (2 * root + 1) + 1]! = true then 2 * root + 2 else 2 * root + 1
theorem siftDown_no {hi first root : Nat} {d : Array α} (h : 2 * root + 1 < hi) (hl : lt d[first + root]! d[first + child lt hi first root d]! = false) : siftDown lt hi first root d = d := by
 unfold siftDown; rw [dif_neg (by omega)]
 unfold child at hl
 by_cases c : 2 * root + 1 + 1 < hi ∧ lt d[first + (2 * root + 1)]! d[first + (2 * root + 1) + 1]! = true
 · rw [if_pos c] at hl
   rw [if_pos (by simp [c.1, c.2]), if_pos (by simp [hl])]
 · rw [if_neg c] at hl
   rw [if_neg (by simpa using c), if_pos (by simp [hl])]
theorem siftDown_yes {hi first root : Nat} {d : Array α} (h : 2 * root + 1 < hi) (hl : lt d[first + root]! d[first + child lt hi first root d]! = true) :
  siftDown lt hi first root d = siftDown lt hi first (child lt hi first root d) (swp d (first + root) (first + child lt hi first root d)) := by
 conv => lhs; unfold siftDown
 rw [dif_neg (by omega)]
 unfold child at hl ⊢
 by_cases c : 2 * root + 1 + 1 < hi ∧ lt d[first + (2 * root + 1)]! d[first + (2 * root + 1) + 1]! = true
 · rw [if_pos c] at hl ⊢
   rw [if_pos (by simp [c.1, c.2]), if_neg (by simp [hl]), dif_pos (by omega)]
 · rw [if_neg c] at hl ⊢
   rw [if_neg (by simpa using c), if_neg (by simp [hl])]
theorem child_pos {hi first root : Nat} {d : Array α} (h : 2 * root + 1 < hi) : root < child lt hi first root d ∧ child lt hi first root d < hi := by
 unfold child; split <;> omega
theorem sz_siftDown (hi first : Nat) : ∀ (n root : Nat) (d : Array α), hi - root ≤ n → (siftDown lt hi first root d).size = d.size
 | 0, root, d, h => by rw [siftDown_end]; omega
 | n + 1, root, d, h => by
  rcases Nat.lt_or_ge (2 * root + 1) hi with h1 | h1
  · cases hl : lt d[first + root]! d[first + child lt hi first root d]!
    · rw [siftDown_no lt h1 hl]
    · have := child_pos lt (first := first) (d := d) h1
      rw [siftDown_yes lt h1 hl, sz_siftDown hi first n _ _ (by omega), sz_swp]
  · rw [siftDown_end lt h1]
theorem heapBuild_succ (hi first k : Nat) (d : Array α) : heapBuild lt hi first (k + 1) d = heapBuild lt hi first k (siftDown lt hi first k d) := rfl
theorem heapPop_succ (first k : Nat) (d : Array α) : heapPop lt first (k + 1) d = heapPop lt first k (siftDown lt k first 0 (swp d first (first + k))) := rfl
theorem scanUp_yes {p : α → Bool} {d : Array α} {j i : Nat} (h : i ≤ j) (hp : p d[i]! = true) : scanUp p d j i = scanUp p d j (i + 1) := by
 conv => lhs; unfold scanUp
 rw [if_pos (by simp [h, hp])]
theorem scanUp_no {p : α → Bool} {d : Array α} {j i : Nat} (h : p d[i]! = false) : scanUp p d j i = i := by
 unfold scanUp; rw [if_neg (by simp [h])]
theorem scanUp_end {p : α → Bool} {d : Array α} {j i : Nat} (h : j < i) : scanUp p d j i = i := by
 unfold scanUp; rw [if_neg (by simp; omega)]
theorem scanDown_yes {p : α → Bool} {d : Array α} {j i : Nat} (h1 : 1 ≤ j) (h : i ≤ j) (hp : p d[j]! = true) : scanDown p d i j = scanDown p d i (j - 1) := by
 obtain ⟨j, rfl⟩ : ∃ m, j = m + 1 := ⟨j - 1, by omega⟩
 conv => lhs; unfold scanDown
 rw [if_pos (by simp [h, hp])]; rfl
theorem scanDown_no {p : α → Bool} {d : Array α} {j i : Nat} (h : p d[j]! = false) : scanDown p d i j = j := by
 cases j with
 | zero => rfl
 | succ j => unfold scanDown; rw [if_neg (by simp [h])]
theorem scanDown_end {p : α → Bool} {d : Array α} {j i : Nat} (h : j < i) : scanDown p d i j = j := by
 cases j with
 | zero => rfl
 | succ j => unfold scanDown; rw [if_neg (by simp; omega)]
theorem scanSorted_yes {d : Array α} {b i : Nat} (h : i < b) (hl : lt d[i]! d[i - 1]! = false) : scanSorted lt d b i = scanSorted lt d b (i + 1) := by
 conv => lhs; unfold scanSorted
 rw [if_pos (by simp [h, hl])]
theorem scanSorted_no {d : Array α} {b i : Nat} (h : lt d[i]! d[i - 1]! = true) : scanSorted lt d b i = i := by
 unfold scanSorted; rw [if_neg (by simp [h])]
theorem scanSorted_end {d : Array α} {b i : Nat} (h : b ≤ i) : scanSorted lt d b i = i := by
 unfold scanSorted; rw [if_neg (by simp; omega)]
theorem scanSorted_le (d : Array α) (b : Nat) : ∀ (n i : Nat), b - i ≤ n → i ≤ b → i ≤ scanSorted lt d b i ∧ scanSorted lt d b i ≤ b
 | 0, i, h, hi => by rw [scanSorted_end lt (by omega)]; omega
 | n + 1, i, h, hi => by
  rcases Nat.lt_or_ge i b with h1 | h1
  · cases hl : lt d[i]! d[i - 1]!
    · rw [scanSorted_yes lt h1 hl]; have := scanSorted_le d b n (i + 1) (by omega) (by omega); omega
    · rw [scanSorted_no lt hl]; omega
  · rw [scanSorted_end lt h1]; omega
theorem shiftDown_no {j : Nat} {d : Array α} (hl : lt d[j]! d[j - 1]! = false) : shiftDown lt j d = d := by
 cases j with
 | zero => rfl
 | succ j => simp only [Nat.add_sub_cancel] at hl; unfold shiftDown; rw [if_pos (by simp [hl])]
theorem shiftDown_yes {j : Nat} {d : Array α} (h : 1 ≤ j) (hl : lt d[j]! d[j - 1]! = true) : shiftDown lt j d = shiftDown lt (j - 1) (swp d j (j - 1)) := by
 obtain ⟨j, rfl⟩ : ∃ m, j = m + 1 := ⟨j - 1, by omega⟩
 simp only [Nat.add_sub_cancel] at hl ⊢
 conv => lhs; unfold shiftDown
 rw [if_neg (by simp [hl])]
theorem shiftUp_end {b j : Nat} {d : Array α} (h : b ≤ j) : shiftUp lt b j d = d := by
 unfold shiftUp; rw [if_neg (by omega)]
theorem shiftUp_no {b j : Nat} {d : Array α} (hl : lt d[j]! d[j - 1]! = false) : shiftUp lt b j d = d := by
 unfold shiftUp; split
 · rw [if_pos (by simp [hl])]
 · rfl
theorem shiftUp_yes {b j : Nat} {d : Array α} (h : j < b) (hl : lt d[j]! d[j - 1]! = true) : shiftUp lt b j d = shiftUp lt b (j + 1) (swp d j (j - 1)) := by
 conv => lhs; unfold shiftUp
 rw [if_pos h, if_neg (by simp [hl])]
theorem sz_shiftDown : ∀ (j : Nat) (d : Array α), (shiftDown lt j d).size = d.size
 | 0, d => rfl
 | j + 1, d => by unfold shiftDown; split; · rfl
                  · rw [sz_shiftDown j, sz_swp]
theorem sz_shiftUp (b : Nat) : ∀ (n j : Nat) (d : Array α), b - j ≤ n → (shiftUp lt b j d).size = d.size
 | 0, j, d, h => by rw [shiftUp_end]; omega
 | n + 1, j, d, h => by
  rcases Nat.lt_or_ge j b with h1 | h1
  · cases hl : lt d[j]! d[j - 1]!
    · rw [shiftUp_no lt hl]
    · rw [shiftUp_yes lt h1 hl, sz_shiftUp b n _ _ (by omega), sz_swp]
  · rw [shiftUp_end lt h1]
end
section
variable {α : Type} [Inhabited α]
theorem reverseLoop_go {i j : Nat} {d : Array α} (h : i < j) : reverseLoop i j d = reverseLoop (i + 1) (j - 1) (swp d i j) := by
 conv => lhs; unfold reverseLoop
 rw [if_pos h]
theorem reverseLoop_end {i j : Nat} {d : Array α} (h : j ≤ i) : reverseLoop i j d = d := by
 unfold reverseLoop; rw [if_neg (by omega)]
end
end
section
open Go Go.Sort
theorem wrapUm (n : Int) : IntKind.u64.wrap n = n % 18446744073709551616 := by
 simp [IntKind.wrap, IntKind.bits, IntKind.signed]
theorem wrapU {n : Int} (h1 : 0 ≤ n) (h2 : n < 18446744073709551616) : IntKind.u64.wrap n = n := by
 rw [wrapUm]; exact Int.emod_eq_of_lt h1 h2
theorem bv_nat (n : Nat) (h : n < 18446744073709551616) : (BitVec.ofInt IntKind.u64.bits (n : Int)).toNat = n := by
 show (BitVec.ofInt 64 (n : Int)).toNat = n
 simp; omega
theorem xorlt {a b : Nat} (ha : a < 18446744073709551616) (hb : b < 18446744073709551616) : a ^^^ b < 18446744073709551616 := Nat.xor_lt_two_pow (n := 64) (by simpa using ha) (by simpa using hb)
theorem xorU {a b : Nat} (ha : a < 18446744073709551616) (hb : b < 18446744073709551616) : IntKind.u64.wrap (BitVec.ofInt IntKind.u64.bits (a : Int) ^^^ BitVec.ofInt IntKind.u64.bits (b : Int)).toNat = ((a ^^^ b : Nat) : Int) := by
 rw [BitVec.toNat_xor, bv_nat a ha, bv_nat b hb]
 have : a ^^^ b < 2 ^ 64 := Nat.xor_lt_two_pow (by simpa using ha) (by simpa using hb)
 exact wrapU (by omega) (by omega)
theorem andU {a b : Nat} (ha : a < 18446744073709551616) (hb : b < 18446744073709551616) : IntKind.u64.wrap (BitVec.ofInt IntKind.u64.bits (a : Int) &&& BitVec.ofInt IntKind.u64.bits (b : Int)).toNat = ((a &&& b : Nat) : Int) := by
 rw [BitVec.toNat_and, bv_nat a ha, bv_nat b hb]
 have : a &&& b ≤ b := Nat.and_le_right
 exact wrapU (by omega) (by omega)
theorem tdivN (n : Nat) (k : Nat) : ((n : Int)).tdiv (k : Int) = ((n / k : Nat) : Int) := by
 rw [Int.tdiv_eq_ediv_of_nonneg (by omega)]; rfl
theorem fdivN (n : Nat) (k : Nat) : Int.fdiv (n : Int) ((k : Nat) : Int) = ((n / k : Nat) : Int) := by
 rw [Int.fdiv_eq_ediv_of_nonneg _ (by omega)]; rfl
set_option maxRecDepth 20000 in
theorem tabl_size : (⟨#[0, 1, 2, 2, 3, 3, 3, 3, 4, 4, 4, 4, 4, 4, 4, 4, 5, 5, 5, 5, 5, 5, 5, 5, 5, 5, 5, 5, 5, 5, 5, 5, 6, 6, 6, 6, 6, 6, 6, 6, 6, 6, 6, 6, 6, 6, 6, 6, 6, 6, 6, 6, 6, 6, 6, 6, 6, 6, 6, 6, 6, 6, 6, 6, 7, 7, 7, 7, 7, 7, 7, 7, 7, 7, 7, 7, 7, 7, 7, 7, 7, 7, 7, 7, 7, 7, 7, 7, 7, 7, 7, 7, 7, 7, 7, 7, 7, 7, 7, 7, 7, 7, 7, 7, 7, 7, 7, 7, 7, 7, 7, 7, 7, 7, 7, 7, 7, 7, 7, 7, 7, 7, 7, 7, 7, 7, 7, 7, 8, 8, 8, 8, 8, 8, 8, 8, 8, 8, 8, 8, 8, 8, 8, 8, 8, 8, 8, 8, 8, 8, 8, 8, 8, 8, 8, 8, 8, 8, 8, 8, 8, 8, 8, 8, 8, 8, 8, 8, 8, 8, 8, 8, 8, 8, 8, 8, 8, 8, 8, 8, 8, 8, 8, 8, 8, 8, 8, 8, 8, 8, 8, 8, 8, 8, 8, 8, 8, 8, 8, 8, 8, 8, 8, 8, 8, 8, 8, 8, 8, 8, 8, 8, 8, 8, 8, 8, 8, 8, 8, 8, 8, 8, 8, 8, 8, 8, 8, 8, 8, 8, 8, 8, 8, 8, 8, 8, 8, 8, 8, 8, 8, 8, 8, 8, 8, 8, 8, 8, 8, 8, 8, 8, 8, 8, 8, 8]⟩ : ByteArray).size = 256 := by rfl
theorem tabl (n : Nat) (h : n < 256) : (((⟨#[0, 1, 2, 2, 3, 3, 3, 3, 4, 4, 4, 4, 4, 4, 4, 4, 5, 5, 5, 5, 5, 5, 5, 5, 5, 5, 5, 5, 5, 5, 5, 5, 6, 6, 6, 6, 6, 6, 6, 6, 6, 6, 6, 6, 6, 6, 6, 6, 6, 6, 6, 6, 6, 6, 6, 6, 6, 6, 6, 6, 6, 6, 6, 6, 7, 7, 7, 7, 7, 7, 7, 7, 7, 7, 7, 7, 7, 7, 7, 7, 7, 7, 7, 7, 7, 7, 7, 7, 7, 7, 7, 7, 7, 7, 7, 7, 7, 7, 7, 7, 7, 7, 7, 7, 7, 7, 7, 7, 7, 7, 7, 7, 7, 7, 7, 7, 7, 7, 7, 7, 7, 7, 7, 7, 7, 7, 7, 7, 8, 8, 8, 8, 8, 8, 8, 8, 8, 8, 8, 8, 8, 8, 8, 8, 8, 8, 8, 8, 8, 8, 8, 8, 8, 8, 8, 8, 8, 8, 8, 8, 8, 8, 8, 8, 8, 8, 8, 8, 8, 8, 8, 8, 8, 8, 8, 8, 8, 8, 8, 8, 8, 8, 8, 8, 8, 8, 8, 8, 8, 8, 8, 8, 8, 8, 8, 8, 8, 8, 8, 8, 8, 8, 8, 8, 8, 8, 8, 8, 8, 8, 8, 8, 8, 8, 8, 8, 8, 8, 8, 8, 8, 8, 8, 8, 8, 8, 8, 8, 8, 8, 8, 8, 8, 8, 8, 8, 8, 8, 8, 8, 8, 8, 8, 8, 8, 8, 8, 8, 8, 8, 8, 8, 8, 8, 8, 8]⟩ : ByteArray).get! n).toNat : Nat) = bitsLen n := by
 have h2 : ∀ n : Fin 256, ((⟨#[0, 1, 2, 2, 3, 3, 3, 3, 4, 4, 4, 4, 4, 4, 4, 4, 5, 5, 5, 5, 5, 5, 5, 5, 5, 5, 5, 5, 5, 5, 5, 5, 6, 6, 6, 6, 6, 6, 6, 6, 6, 6, 6, 6, 6, 6, 6, 6, 6, 6, 6, 6, 6, 6, 6, 6, 6, 6, 6, 6, 6, 6, 6, 6, 7, 7, 7, 7, 7, 7, 7, 7, 7, 7, 7, 7, 7, 7, 7, 7, 7, 7, 7, 7, 7, 7, 7, 7, 7, 7, 7, 7, 7, 7, 7, 7, 7, 7, 7, 7, 7, 7, 7, 7, 7, 7, 7, 7, 7, 7, 7, 7, 7, 7, 7, 7, 7, 7, 7, 7, 7, 7, 7, 7, 7, 7, 7, 7, 8, 8, 8, 8, 8, 8, 8, 8, 8, 8, 8, 8, 8, 8, 8, 8, 8, 8, 8, 8, 8, 8, 8, 8, 8, 8, 8, 8, 8, 8, 8, 8, 8, 8, 8, 8, 8, 8, 8, 8, 8, 8, 8, 8, 8, 8, 8, 8, 8, 8, 8, 8, 8, 8, 8, 8, 8, 8, 8, 8, 8, 8, 8, 8, 8, 8, 8, 8, 8, 8, 8, 8, 8, 8, 8, 8, 8, 8, 8, 8, 8, 8, 8, 8, 8, 8, 8, 8, 8, 8, 8, 8, 8, 8, 8, 8, 8, 8, 8, 8, 8, 8, 8, 8, 8, 8, 8, 8, 8, 8, 8, 8, 8, 8, 8, 8, 8, 8, 8, 8, 8, 8, 8, 8, 8, 8, 8, 8]⟩ : ByteArray).get! n.1).toNat = bitsLen n.1 := by decide +kernel
 exact h2 ⟨n, h⟩
end
end Go.Proofs.Ytkfnkiejikhglaa.GD
namespace Go.Proofs.Ytkfnkiejikhglaa.Own
open Go Go.Proofs.Ytkfnkiejikhglaa.GD Go.Proofs.Ytkfnkiejikhglaa.GD.Trie Go.Sort
structure Er where
 f : Int
 h : Nat
 l : Nat
 n : Int
 nb : Bool
 vs : List Int
deriving Inhabited
abbrev vsD (l : List Int) : List D := l.map (D.int .i64)
def enE (x : Er) : D := .agg [.int .u8 x.f, .int .u64 (x.h : Int), .int .u64 (x.l : Int), .int .i64 x.n, .sl 3 x.nb (vsD x.vs)]
def cmpE (x y : Er) : Int := cmpR x.f x.h x.l x.n y.f y.h y.l y.n
def ltE (x y : Er) : Bool := decide (cmpE x y < 0)
theorem enc : (∀ x : Er, (enE x).cell 0 = .int .u8 x.f) ∧ (∀ x : Er, (enE x).cell 1 = .int .u64 (x.h : Int)) ∧ (∀ x : Er, (enE x).cell 2 = .int .u64 (x.l : Int)) ∧ (∀ x : Er, (enE x).cell 3 = .int .i64 x.n) ∧ (∀ x : Er, (enE x).cell 4 = .sl 3 x.nb (vsD x.vs)) ∧
  (∀ x : Er, D.agg [.int .u8 x.f, .int .u64 (x.h : Int), .int .u64 (x.l : Int), .int .i64 x.n, .sl 3 x.nb (vsD x.vs)] = enE x) ∧ (∀ x y : Er, decide (cmpE x y < 0) = ltE x y) :=
 ⟨fun _ => rfl, fun _ => rfl, fun _ => rfl, fun _ => rfl, fun _ => rfl, fun _ => rfl, fun _ _ => rfl⟩
theorem pre1_ok (x : Er) : Cl ty tab 81 [enE x] = some [P4 x.f x.h x.l x.n] := s_trie_plant_1 0 _ _ _ _ _ _ rfl
theorem less_ok (x y : Er) : Cl ty tab 102 [enE x, enE y, .rp [.fn 81 []] 0] = some [.int .i64 (cmpE x y)] := by
 refine s_api_TrieEntry_1 0 _ _ _ _ _ _ _ _ _ _ _ _ ?_
 unfold api_TrieEntry_1
 have h1 := pre1_ok x
 have h2 := pre1_ok y
 have h3 := order_raw x.f x.h x.l x.n y.f y.h y.l y.n
 unfold enE at h1 h2
 unfold cmpE
 simp (disch := omega) only [gds, h1, h2, h3]
theorem cmpR_lt {f : Int} {h l : Nat} {n : Int} {f' : Int} {h' l' : Nat} {n' : Int} : cmpR f h l n f' h' l' n' < 0 ↔ f < f' ∨ (f = f' ∧ (h < h' ∨ (h = h' ∧ (l < l' ∨ (l = l' ∧ n < n'))))) := by
 unfold cmpR sgnA sgnT
 by_cases h1 : f < f'
 · simp [h1]
 by_cases h2 : f' < f
 · have : ¬ f = f' := by omega
   simp [h1, h2, this]
 have h3 : f = f' := by omega
 by_cases h4 : (h : Int) < h'
 · have : h < h' := by omega
   simp [h3, this]
 by_cases h5 : (h' : Int) < h
 · have e1 : ¬ h < h' := by omega
   have e2 : ¬ h = h' := by omega
   have e3 : h' < h := by omega
   simp [h3, e1, e2, e3]
 have h6 : h = h' := by omega
 by_cases h7 : (l : Int) < l'
 · have : l < l' := by omega
   simp [h3, h6, this]
 by_cases h8 : (l' : Int) < l
 · have e1 : ¬ l < l' := by omega
   have e2 : ¬ l = l' := by omega
   have e3 : l' < l := by omega
   simp [h3, h6, e1, e2, e3]
 have h9 : l = l' := by omega
 by_cases h10 : n < n'
 · simp [h3, h6, h9, h10]
 · by_cases h11 : n' < n
   · simp [h3, h6, h9, h10, h11]
   · simp [h3, h6, h9, h10, h11]
theorem swo_ltE : SWO ltE where
 irrefl := fun x => by
  simp only [ltE, cmpE, decide_eq_false_iff_not, cmpR_lt]
  omega
 trans := fun x y z h1 h2 => by
  simp only [ltE, cmpE, decide_eq_true_eq, cmpR_lt] at h1 h2 ⊢
  omega
 ntrans := fun x y z h1 h2 => by
  simp only [ltE, cmpE, decide_eq_false_iff_not, cmpR_lt] at h1 h2 ⊢
  omega
end Go.Proofs.Ytkfnkiejikhglaa.Own
namespace Go.Proofs.Ytkfnkiejikhglaa.Own
open Go Go.Proofs.Ytkfnkiejikhglaa.GD Go.Sort
section
variable (nb : Bool) {N : Nat} (hN : N < 65536)
include hN
theorem insIn_ok {K : Nat} (k : Nat) (l : List D) (hl : l.length = N) (a i : Nat) (again : List D → Option (List D)) (vs : List D) (hv : ∃ w, vs = .int .i64 (i : Int) :: w) (hi : i < N) (d : Array Er) (hd : d.size = N) (j : Nat) (hj : j ≤ i) (hk : j < k) :
  iter k (slices_insertionSortCmpFunc.b1 (Cl ty tab) K l a again vs) [.int .i64 j, .ov 49 nb (ar enE d)] = again [.int .i64 ((i : Int) + 1), .ov 49 nb (ar enE (insInner ltE a j d))] := by
 obtain ⟨w, rfl⟩ := hv
 refine iter_wf (fun s : Nat × Array Er => [.int .i64 s.1, .ov 49 nb (ar enE s.2)]) (fun s => again [.int .i64 ((i : Int) + 1), .ov 49 nb (ar enE (insInner ltE a s.1 s.2))]) (fun s => s.1) (fun s => s.1 ≤ i ∧ s.2.size = N) (fun s hs ag ih => ?_) k (j, d) ⟨hj, hd⟩ hk
 obtain ⟨j, d⟩ := s
 obtain ⟨h1, h2⟩ := hs
 dsimp only at h1 h2 ih ⊢
 unfold slices_insertionSortCmpFunc.b1
 rcases Nat.lt_or_ge a j with c | c
 · have g1 := ar_get enE (d := d) (i := j) (by omega)
   have g2 := ar_get enE (d := d) (i := j - 1) (by omega)
   cases hl2 : ltE d[j]! d[j - 1]!
   · rw [insInner_no ltE hl2]
     simp (disch := omega) only [gds, enc, hl, g1, g2, less_ok, hl2]
   · rw [insInner_yes ltE c hl2]
     have ih' := ih (j - 1, swp d j (j - 1)) ⟨by dsimp only; omega, by dsimp only; rw [sz_swp]; exact h2⟩ (by dsimp only; omega)
     dsimp only at ih'
     rw [show ((j - 1 : Nat) : Int) = (j : Int) - 1 by omega] at ih'
     simp (disch := omega) only [gds, enc, hl, g1, g2, less_ok, hl2, ar_swp]
     exact ih'
 · rw [insInner_stop ltE c]
   simp (disch := omega) only [gds, enc, hl]
theorem ins_ok (d : Array Er) (hd : d.size = N) (a b : Nat) (hab : a ≤ b) (hb : b ≤ N) : Cl ty tab 117 [.ov 49 nb (ar enE d), .int .i64 a, .int .i64 b, .fn 102 [.rp [.fn 81 []] 0]] = some [.ov 49 nb (ar enE (insertionSort ltE d a b))] := by
 refine s_slices_insertionSortCmpFunc (N + 2) nb _ _ _ ?_
 unfold slices_insertionSortCmpFunc insertionSort
 have := iter_wf (F := slices_insertionSortCmpFunc.b0 (Cl ty tab) (N + 2) (ar enE d) a b) (fun s : Nat × Array Er => [.int .i64 s.1, .ov 49 nb (ar enE s.2)]) (fun s => some [.ov 49 nb (ar enE (insOuter ltE a b s.1 s.2))]) (fun s => b + 1 - s.1) (fun s => s.2.size = N ∧ a ≤ s.1 ∧ s.1 ≤ b + 1) (fun s hs ag ih => ?_) (N + 2) (a + 1, d) ⟨hd, by dsimp only; omega, by dsimp only; omega⟩ (by dsimp only; omega)
 · dsimp only at this
   rw [show ((a + 1 : Nat) : Int) = (a : Int) + 1 by omega] at this
   simp (disch := omega) only [gds, enc]
   exact this
 · obtain ⟨i, d'⟩ := s
   obtain ⟨h1, h2, h3⟩ := hs
   dsimp only at h1 h2 h3 ih ⊢
   unfold slices_insertionSortCmpFunc.b0
   rcases Nat.lt_or_ge i b with c | c
   · rw [insOuter_go ltE c]
     have ih' := ih (i + 1, insInner ltE a i d') ⟨by dsimp only; rw [sz_insInner]; exact h1, by dsimp only; omega, by dsimp only; omega⟩ (by dsimp only; omega)
     dsimp only at ih'
     rw [show ((i + 1 : Nat) : Int) = (i : Int) + 1 by omega] at ih'
     have := insIn_ok nb hN (K := N + 2) (N + 2) (ar enE d) (by rw [ar_length]; exact hd) a i ag [.int .i64 (i : Int), .ov 49 nb (ar enE d')] ⟨_, rfl⟩ (by omega) d' h1 i (Nat.le_refl _) (by omega)
     simp (disch := omega) only [gds, enc, this]
     exact ih'
   · rw [insOuter_end ltE c]
     simp (disch := omega) only [gds, enc]
set_option maxHeartbeats 4000000 in
theorem sift_ok (d : Array Er) (hd : d.size = N) (lo hi first : Nat) (h : first + hi ≤ N) (h2 : lo ≤ N) : Cl ty tab 129 [.ov 49 nb (ar enE d), .int .i64 lo, .int .i64 hi, .int .i64 first, .fn 102 [.rp [.fn 81 []] 0]] = some [.ov 49 nb (ar enE (siftDown ltE hi first lo d))] := by
 refine s_slices_siftDownCmpFunc (N + 2) nb _ _ _ _ ?_
 unfold slices_siftDownCmpFunc
 refine iter_wf (F := slices_siftDownCmpFunc.b0 (Cl ty tab) (N + 2) (ar enE d) hi first) (fun s : Nat × Array Er => [.int .i64 s.1, .ov 49 nb (ar enE s.2)]) (fun s => some [.ov 49 nb (ar enE (siftDown ltE hi first s.1 s.2))]) (fun s => N + 1 - s.1) (fun s => s.2.size = N ∧ s.1 ≤ N) (fun s hs ag ih => ?_) (N + 2) (lo, d) ⟨hd, h2⟩ (by dsimp only; omega)
 obtain ⟨r, d'⟩ := s
 obtain ⟨h1, h3⟩ := hs
 dsimp only at h1 h3 ih ⊢
 have hl : (ar enE d).length = N := by rw [ar_length]; exact hd
 unfold slices_siftDownCmpFunc.b0 slices_siftDownCmpFunc.j0
 rcases Nat.lt_or_ge (2 * r + 1) hi with c | c
 · have hcp := child_pos ltE (first := first) (d := d') c
   have g0 := ar_get enE (d := d') (i := first + r) (by omega)
   have gc := ar_get enE (d := d') (i := first + child ltE hi first r d') (by omega)
   have e0 : ((first : Int) + r).toNat = first + r := by omega
   have e1 : ((first : Int) + (2 * (r : Int) + 1)).toNat = first + (2 * r + 1) := by omega
   have e2 : ((first : Int) + (2 * (r : Int) + 1) + 1).toNat = first + (2 * r + 1) + 1 := by omega
   have e4 : ((first : Int) + (2 * (r : Int) + 1 + 1)).toNat = first + (2 * r + 2) := by omega
   by_cases c2 : 2 * r + 1 + 1 < hi
   · have g1 := ar_get enE (d := d') (i := first + (2 * r + 1)) (by omega)
     have g2 := ar_get enE (d := d') (i := first + (2 * r + 1) + 1) (by omega)
     cases hc : ltE d'[first + (2 * r + 1)]! d'[first + (2 * r + 1) + 1]!
     · have ech : child ltE hi first r d' = 2 * r + 1 := by unfold child; rw [if_neg]; simp [hc]
       rw [ech] at hcp gc
       cases hlt : ltE d'[first + r]! d'[first + (2 * r + 1)]!
       · rw [siftDown_no ltE c (by rw [ech]; exact hlt)]
         simp (disch := omega) only [gds, enc, hl, g0, gc, e0, e1, e2, e4, g1, g2, less_ok, hc, hlt]
       · rw [siftDown_yes ltE c (by rw [ech]; exact hlt), ech]
         have ih' := ih (2 * r + 1, swp d' (first + r) (first + (2 * r + 1))) ⟨by dsimp only; rw [sz_swp]; exact h1, by dsimp only; omega⟩ (by dsimp only; omega)
         dsimp only at ih'
         rw [show ((2 * r + 1 : Nat) : Int) = 2 * (r : Int) + 1 by omega] at ih'
         clear ih
         simp (disch := omega) only [gds, enc, hl, g0, gc, e0, e1, e2, e4, g1, g2, less_ok, hc, hlt, ar_swp]
         exact ih'
     · have ech : child ltE hi first r d' = 2 * r + 2 := by unfold child; rw [if_pos ⟨c2, hc⟩]
       rw [ech] at hcp gc
       cases hlt : ltE d'[first + r]! d'[first + (2 * r + 2)]!
       · rw [siftDown_no ltE c (by rw [ech]; exact hlt)]
         simp (disch := omega) only [gds, enc, hl, g0, gc, e0, e1, e2, e4, g1, g2, less_ok, hc, hlt]
       · rw [siftDown_yes ltE c (by rw [ech]; exact hlt), ech]
         have ih' := ih (2 * r + 2, swp d' (first + r) (first + (2 * r + 2))) ⟨by dsimp only; rw [sz_swp]; exact h1, by dsimp only; omega⟩ (by dsimp only; omega)
         dsimp only at ih'
         rw [show ((2 * r + 2 : Nat) : Int) = 2 * (r : Int) + 1 + 1 by omega] at ih'
         clear ih
         simp (disch := omega) only [gds, enc, hl, g0, gc, e0, e1, e2, e4, g1, g2, less_ok, hc, hlt, ar_swp]
         exact ih'
   · have ech : child ltE hi first r d' = 2 * r + 1 := by unfold child; rw [if_neg (fun x => c2 x.1)]
     rw [ech] at hcp gc
     cases hlt : ltE d'[first + r]! d'[first + (2 * r + 1)]!
     · rw [siftDown_no ltE c (by rw [ech]; exact hlt)]
       simp (disch := omega) only [gds, enc, hl, g0, gc, e0, e1, less_ok, hlt]
     · rw [siftDown_yes ltE c (by rw [ech]; exact hlt), ech]
       have ih' := ih (2 * r + 1, swp d' (first + r) (first + (2 * r + 1))) ⟨by dsimp only; rw [sz_swp]; exact h1, by dsimp only; omega⟩ (by dsimp only; omega)
       dsimp only at ih'
       rw [show ((2 * r + 1 : Nat) : Int) = 2 * (r : Int) + 1 by omega] at ih'
       clear ih
       simp (disch := omega) only [gds, enc, hl, g0, gc, e0, e1, less_ok, hlt, ar_swp]
       exact ih'
 · rw [siftDown_end ltE c]
   simp (disch := omega) only [gds, enc]
end
end Go.Proofs.Ytkfnkiejikhglaa.Own
namespace Go.Proofs.Ytkfnkiejikhglaa.Own
open Go Go.Proofs.Ytkfnkiejikhglaa.GD Go.Sort
set_option maxRecDepth 20000 in
theorem bits_ok (n : Nat) (h : n < 65536) : Cl ty tab 110 [.int .u64 (n : Int)] = some [.int .i64 ((bitsLen n : Nat) : Int)] := by
 refine s_bits_Len 0 _ ?_
 unfold bits_Len
 have e : Cl ty tab 126 [.int .u64 (n : Int)] = some [.int .i64 ((bitsLen n : Nat) : Int)] := by
  refine s_bits_Len64 0 _ ?_
  unfold bits_Len64 bits_Len64.j2 bits_Len64.j1 bits_Len64.j0
  have w8 : ∀ m : Nat, m < 256 → IntKind.u8.wrap (m : Int) = (m : Int) := fun m hm => by simp [IntKind.wrap, IntKind.bits, IntKind.signed]; omega
  by_cases c : n < 256
  · have l8 : bitsLen n ≤ 8 := (bitsLen_le_iff n 8).2 (by omega)
    simp (disch := omega) only [gds, enc, w8 n c, tabl n c, tabl_size, Int.zero_add]
  · have e1 : Int.fdiv (n : Int) (2 ^ 8) = ((n / 256 : Nat) : Int) := fdivN n 256
    have c2 : n / 256 < 256 := by omega
    have e2 : bitsLen n = 8 + bitsLen (n / 256) := by
     apply Nat.le_antisymm
     · refine (bitsLen_le_iff n _).2 ?_
       have := lt_two_pow_bitsLen (n / 256)
       rw [Nat.pow_add]; omega
     · refine Nat.le_of_not_lt fun hlt => ?_
       have h8 : 8 ≤ bitsLen n := by
        refine Nat.le_of_not_lt fun hx => ?_
        have := (bitsLen_le_iff n 7).1 (by omega)
        omega
       have := (bitsLen_le_iff (n / 256) (bitsLen n - 8)).2 (by
        have := lt_two_pow_bitsLen n
        rw [show bitsLen n = 8 + (bitsLen n - 8) by omega, Nat.pow_add] at this
        omega)
       omega
    have l8 : bitsLen (n / 256) ≤ 8 := (bitsLen_le_iff _ 8).2 (by omega)
    have e3 : ((bitsLen n : Nat) : Int) = 8 + ((bitsLen (n / 256) : Nat) : Int) := by omega
    rw [e3]
    simp (disch := omega) only [gds, enc, e1, w8 _ c2, tabl _ c2, tabl_size, Int.zero_add]
 rw [e]
 simp (disch := omega) only [gds, enc]
theorem pow2_ok (n : Nat) (h : n < 65536) : Cl ty tab 130 [.int .i64 (n : Int)] = some [.int .u64 ((1 <<< bitsLen n : Nat) : Int)] := by
 refine s_slices_nextPowerOfTwo 0 _ ?_
 unfold slices_nextPowerOfTwo
 have l16 : bitsLen n ≤ 16 := (bitsLen_le_iff n 16).2 (by omega)
 have hm : min (bitsLen n) IntKind.u64.bits = bitsLen n := Nat.min_eq_left (by show _ ≤ 64; omega)
 have hp : 2 ^ bitsLen n ≤ 2 ^ 16 := Nat.pow_le_pow_right (by omega) l16
 have e : (1 : Int) * (2 : Int) ^ bitsLen n = ((1 <<< bitsLen n : Nat) : Int) := by
  rw [Nat.shiftLeft_eq]; simp
 have hb : 1 <<< bitsLen n < 18446744073709551616 := by rw [Nat.shiftLeft_eq]; omega
 have hw : IntKind.u64.wrap ((1 <<< bitsLen n : Nat) : Int) = ((1 <<< bitsLen n : Nat) : Int) := by
  generalize 1 <<< bitsLen n = z at *
  exact wrapU (by omega) (by omega)
 simp (disch := omega) only [gds, enc, wrapU, bits_ok n h, hm, e, hw]
theorem xor_ok (r : UInt64) : Cl ty tab 131 [.pv [.int .u64 ((r.toNat : Nat) : Int)]] = some [.int .u64 (((xorNext r).toNat : Nat) : Int), .pv [.int .u64 (((xorNext r).toNat : Nat) : Int)]] := by
 refine s_slices_xorshift_Next 0 _ ?_
 unfold slices_xorshift_Next
 rw [xorNext_toNat]
 unfold xorNextN
 have hr : r.toNat < 18446744073709551616 := r.toNat_lt
 generalize r.toNat = x at *
 have a1 : IntKind.u64.wrap ((x : Int) * 2 ^ 13) = ((x * 8192 % 18446744073709551616 : Nat) : Int) := by rw [wrapUm]; omega
 have h1 : x ^^^ (x * 8192 % 18446744073709551616) < 18446744073709551616 := xorlt (by omega) (by omega)
 simp only [a1, xorU hr (show x * 8192 % 18446744073709551616 < 18446744073709551616 by omega)]
 generalize x ^^^ (x * 8192 % 18446744073709551616) = y at *
 have a2 : Int.fdiv (y : Int) (2 ^ 7) = ((y / 128 : Nat) : Int) := fdivN y 128
 have h2 : y ^^^ (y / 128) < 18446744073709551616 := xorlt (by omega) (by omega)
 simp only [a2, xorU h1 (show y / 128 < 18446744073709551616 by omega)]
 generalize y ^^^ (y / 128) = z at *
 have a3 : IntKind.u64.wrap ((z : Int) * 2 ^ 17) = ((z * 131072 % 18446744073709551616 : Nat) : Int) := by rw [wrapUm]; omega
 simp only [a3, xorU h2 (show z * 131072 % 18446744073709551616 < 18446744073709551616 by omega)]
section
variable (nb : Bool) {N : Nat} (hN : N < 65536)
include hN
theorem heapPop_ok {K : Nat} (k : Nat) (l : List D) (hl : l.length = N) (first n : Nat) (hn : first + n ≤ N) (m : Nat) (hm : m ≤ n) (d : Array Er) (hd : d.size = N) (hk : m < k) :
  iter k (slices_heapSortCmpFunc.b1 (Cl ty tab) K l first) [.int .i64 ((m : Int) - 1), .ov 49 nb (ar enE d)] = some [.ov 49 nb (ar enE (heapPop ltE first m d))] := by
 refine iter_wf (R := List D) (fun s : Nat × Array Er => [.int .i64 ((s.1 : Int) - 1), .ov 49 nb (ar enE s.2)]) (fun s => some [.ov 49 nb (ar enE (heapPop ltE first s.1 s.2))]) (fun s => s.1) (fun s => s.1 ≤ n ∧ s.2.size = N) (fun s hs ag ih => ?_) k (m, d) ⟨hm, hd⟩ hk
 obtain ⟨m, d⟩ := s
 obtain ⟨h1, h2⟩ := hs
 dsimp only at h1 h2 ih ⊢
 unfold slices_heapSortCmpFunc.b1
 cases m with
 | zero =>
  simp (disch := omega) only [gds, enc]
  rfl
 | succ m =>
  rw [show (((m + 1 : Nat) : Int) - 1) = (m : Int) by omega, heapPop_succ]
  have g0 := ar_get enE (d := d) (i := first) (by omega)
  have g1 := ar_get enE (d := d) (i := first + m) (by omega)
  have e1 : ((first : Int) + m).toNat = first + m := by omega
  have sz : (swp d first (first + m)).size = N := by rw [sz_swp]; exact h2
  have hs := sift_ok nb hN (swp d first (first + m)) sz 0 m first (by omega) (by omega)
  rw [show ((0 : Nat) : Int) = 0 from rfl] at hs
  have ih' := ih (m, siftDown ltE m first 0 (swp d first (first + m))) ⟨by dsimp only; omega, by dsimp only; rw [sz_siftDown ltE _ _ _ _ _ (Nat.le_refl _)]; exact sz⟩ (by dsimp only; omega)
  dsimp only at ih'
  clear ih
  simp (disch := omega) only [gds, enc, hl, g0, g1, e1, ar_swp, hs]
  exact ih'
theorem heap_ok (d : Array Er) (hd : d.size = N) (a b : Nat) (hab : a < b) (hb : b ≤ N) : Cl ty tab 118 [.ov 49 nb (ar enE d), .int .i64 a, .int .i64 b, .fn 102 [.rp [.fn 81 []] 0]] = some [.ov 49 nb (ar enE (heapSort ltE d a b))] := by
 refine s_slices_heapSortCmpFunc (N + 2) nb _ _ _ ?_
 unfold slices_heapSortCmpFunc heapSort
 have hl : (ar enE d).length = N := by rw [ar_length]; exact hd
 have et : ((b : Int) - a - 1).tdiv 2 = (((b - a - 1) / 2 : Nat) : Int) := by rw [← tdivN]; congr 1; omega
 have := iter_wf (F := slices_heapSortCmpFunc.b0 (Cl ty tab) (N + 2) (ar enE d) a b) (fun s : Nat × Array Er => [.int .i64 ((s.1 : Int) - 1), .ov 49 nb (ar enE s.2)]) (fun s => some [.ov 49 nb (ar enE (heapPop ltE a (b - a) (heapBuild ltE (b - a) a s.1 s.2)))]) (fun s => s.1) (fun s => s.1 ≤ N ∧ s.2.size = N) (fun s hs ag ih => ?_) (N + 2) ((b - a - 1) / 2 + 1, d) ⟨by dsimp only; omega, hd⟩ (by dsimp only; omega)
 · dsimp only at this
   rw [show ((((b - a - 1) / 2 + 1 : Nat) : Int) - 1) = (((b - a - 1) / 2 : Nat) : Int) by omega] at this
   simp (disch := omega) only [gds, enc, et]
   exact this
 · obtain ⟨m, d'⟩ := s
   obtain ⟨h1, h2⟩ := hs
   dsimp only at h1 h2 ih ⊢
   unfold slices_heapSortCmpFunc.b0
   cases m with
   | zero =>
    have hp := heapPop_ok nb hN (K := N + 2) (N + 2) (ar enE d) hl a (b - a) (by omega) (b - a) (Nat.le_refl _) d' h2 (by omega)
    rw [show ((b - a : Nat) : Int) = (b : Int) - a by omega] at hp
    simp (disch := omega) only [gds, enc, hp]
    rfl
   | succ m =>
    rw [show (((m + 1 : Nat) : Int) - 1) = (m : Int) by omega, heapBuild_succ]
    have hs := sift_ok nb hN d' h2 m (b - a) a (by omega) (by omega)
    rw [show ((b - a : Nat) : Int) = (b : Int) - a by omega] at hs
    have ih' := ih (m, siftDown ltE (b - a) a m d') ⟨by dsimp only; omega, by dsimp only; rw [sz_siftDown ltE _ _ _ _ _ (Nat.le_refl _)]; exact h2⟩ (by dsimp only; omega)
    dsimp only at ih'
    clear ih
    simp (disch := omega) only [gds, enc, hs]
    exact ih'
theorem rev_ok (d : Array Er) (hd : d.size = N) (a b : Nat) (hab : a < b) (hb : b ≤ N) : Cl ty tab 121 [.ov 49 nb (ar enE d), .int .i64 a, .int .i64 b, .fn 102 [.rp [.fn 81 []] 0]] = some [.ov 49 nb (ar enE (reverseRange d a b))] := by
 refine s_slices_reverseRangeCmpFunc (N + 2) nb _ _ _ ?_
 unfold slices_reverseRangeCmpFunc reverseRange
 have hl : (ar enE d).length = N := by rw [ar_length]; exact hd
 have := iter_wf (F := slices_reverseRangeCmpFunc.b0 (Cl ty tab) (N + 2) (ar enE d)) (fun s : Nat × Nat × Array Er => [.int .i64 s.1, .int .i64 s.2.1, .ov 49 nb (ar enE s.2.2)]) (fun s => some [.ov 49 nb (ar enE (reverseLoop s.1 s.2.1 s.2.2))]) (fun s => s.2.1) (fun s => s.2.2.size = N ∧ s.2.1 < N) (fun s hs ag ih => ?_) (N + 2) (a, b - 1, d) ⟨hd, by dsimp only; omega⟩ (by dsimp only; omega)
 · dsimp only at this
   rw [show ((b - 1 : Nat) : Int) = (b : Int) - 1 by omega] at this
   simp (disch := omega) only [gds, enc]
   exact this
 · obtain ⟨i, j, d'⟩ := s
   obtain ⟨h1, h2⟩ := hs
   dsimp only at h1 h2 ih ⊢
   unfold slices_reverseRangeCmpFunc.b0
   rcases Nat.lt_or_ge i j with c | c
   · rw [reverseLoop_go c]
     have g0 := ar_get enE (d := d') (i := i) (by omega)
     have g1 := ar_get enE (d := d') (i := j) (by omega)
     have ih' := ih (i + 1, j - 1, swp d' i j) ⟨by dsimp only; rw [sz_swp]; exact h1, by dsimp only; omega⟩ (by dsimp only; omega)
     dsimp only at ih'
     rw [show ((j - 1 : Nat) : Int) = (j : Int) - 1 by omega, show ((i + 1 : Nat) : Int) = (i : Int) + 1 by omega] at ih'
     clear ih
     simp (disch := omega) only [gds, enc, hl, g0, g1, ar_swp]
     exact ih'
   · rw [reverseLoop_end c]
     simp (disch := omega) only [gds, enc]
theorem ord2_ok (d : Array Er) (hd : d.size = N) (a b s : Nat) (ha : a < N) (hb : b < N) (hs : s < 1000) : Cl ty tab 135 [.ov 49 nb (ar enE d), .int .i64 a, .int .i64 b, .pv [.int .i64 s], .fn 102 [.rp [.fn 81 []] 0]] =
  some [.int .i64 ((order2 ltE d a b s).1 : Nat), .int .i64 ((order2 ltE d a b s).2.1 : Nat), .ov 49 nb (ar enE d), .pv [.int .i64 ((order2 ltE d a b s).2.2 : Nat)]] := by
 have _ := hN
 refine s_slices_order2CmpFunc 0 nb _ _ _ _ ?_
 unfold slices_order2CmpFunc order2
 have hl : (ar enE d).length = N := by rw [ar_length]; exact hd
 have g0 := ar_get enE (d := d) (i := a) (by omega)
 have g1 := ar_get enE (d := d) (i := b) (by omega)
 cases hc : ltE d[b]! d[a]!
 · simp (disch := omega) only [gds, enc, hl, g0, g1, less_ok, hc]
 · simp (disch := omega) only [gds, enc, hl, g0, g1, less_ok, hc]
   rfl
theorem med_ok (d : Array Er) (hd : d.size = N) (a b c s : Nat) (ha : a < N) (hb : b < N) (hc : c < N) (hs : s < 900) : Cl ty tab 133 [.ov 49 nb (ar enE d), .int .i64 a, .int .i64 b, .int .i64 c, .pv [.int .i64 s], .fn 102 [.rp [.fn 81 []] 0]] =
  some [.int .i64 ((median ltE d a b c s).1 : Nat), .ov 49 nb (ar enE d), .pv [.int .i64 ((median ltE d a b c s).2 : Nat)]] := by
 refine s_slices_medianCmpFunc 0 nb _ _ _ _ _ ?_
 unfold slices_medianCmpFunc median
 dsimp only
 have o1 := ord2_ok nb hN d hd a b s ha hb (by omega)
 have m1 := order2_mem ltE d a b s
 have c1 := order2_count (lt := ltE) d a b s
 generalize order2 ltE d a b s = r1 at *
 have o2 := ord2_ok nb hN d hd r1.2.1 c r1.2.2 (by omega) hc (by omega)
 have m2 := order2_mem ltE d r1.2.1 c r1.2.2
 have c2 := order2_count (lt := ltE) d r1.2.1 c r1.2.2
 generalize order2 ltE d r1.2.1 c r1.2.2 = r2 at *
 have o3 := ord2_ok nb hN d hd r1.1 r2.1 r2.2.2 (by omega) (by omega) (by omega)
 clear m1 c1 m2 c2
 simp (disch := omega) only [gds, enc, o1, o2, o3]
theorem medA_ok (d : Array Er) (hd : d.size = N) (a s : Nat) (h1 : 1 ≤ a) (ha : a + 1 < N) (hs : s < 900) : Cl ty tab 132 [.ov 49 nb (ar enE d), .int .i64 a, .pv [.int .i64 s], .fn 102 [.rp [.fn 81 []] 0]] =
  some [.int .i64 ((medianAdjacent ltE d a s).1 : Nat), .ov 49 nb (ar enE d), .pv [.int .i64 ((medianAdjacent ltE d a s).2 : Nat)]] := by
 refine s_slices_medianAdjacentCmpFunc 0 nb _ _ _ ?_
 unfold slices_medianAdjacentCmpFunc medianAdjacent
 have o1 := med_ok nb hN d hd (a - 1) a (a + 1) s (by omega) (by omega) (by omega) hs
 rw [show ((a - 1 : Nat) : Int) = (a : Int) - 1 by omega, show ((a + 1 : Nat) : Int) = (a : Int) + 1 by omega] at o1
 simp (disch := omega) only [gds, enc, o1]
end
def hintI : Hint → Int | .unknown => 0 | .increasing => 1 | .decreasing => 2
section
variable (nb : Bool) {N : Nat} (hN : N < 65536)
include hN
set_option maxHeartbeats 1000000 in
theorem piv_ok (d : Array Er) (hd : d.size = N) (a b : Nat) (hab : a < b) (hb : b ≤ N) : Cl ty tab 120 [.ov 49 nb (ar enE d), .int .i64 a, .int .i64 b, .fn 102 [.rp [.fn 81 []] 0]] =
  some [.int .i64 ((choosePivot ltE d a b).1 : Nat), .int .i64 (hintI (choosePivot ltE d a b).2), .ov 49 nb (ar enE d)] := by
 refine s_slices_choosePivotCmpFunc 0 nb _ _ _ ?_
 unfold slices_choosePivotCmpFunc choosePivot
 have et : ((b : Int) - a).tdiv 4 = (((b - a) / 4 : Nat) : Int) := by rw [← tdivN]; congr 1; omega
 obtain ⟨q, hq⟩ : ∃ q, q = (b - a) / 4 := ⟨_, rfl⟩
 dsimp only
 rw [← hq] at et ⊢
 have e1 : (a : Int) + (q : Int) * 1 = ((a + q * 1 : Nat) : Int) := by omega
 have e2 : (a : Int) + (q : Int) * 2 = ((a + q * 2 : Nat) : Int) := by omega
 have e3 : (a : Int) + (q : Int) * 3 = ((a + q * 3 : Nat) : Int) := by omega
 have tail : ∀ (x c : Nat) (l : List D), (bif decide ((c : Int) = 0) then some [D.int .i64 x, D.int .i64 1, D.ov 49 nb l] else bif decide ((c : Int) = 12) then some [D.int .i64 x, D.int .i64 2, D.ov 49 nb l] else some [D.int .i64 x, D.int .i64 0, D.ov 49 nb l]) = some [D.int .i64 x, D.int .i64 (hintI (if c = 0 then Hint.increasing else if c = 12 then Hint.decreasing else Hint.unknown)), D.ov 49 nb l] := fun x c l => by
  by_cases h0 : c = 0
  · subst h0; rfl
  · by_cases h1 : c = 12
    · subst h1; rfl
    · rw [if_neg h0, if_neg h1, cn (by omega), cn (by omega)]; rfl
 by_cases h8 : 8 ≤ b - a
 · rw [if_pos h8]
   by_cases h50 : 50 ≤ b - a
   · rw [if_pos h50]
     have o1 := medA_ok nb hN d hd (a + q * 1) 0 (by omega) (by omega) (by omega)
     have m1 := medianAdjacent_mem ltE d (a + q * 1) 0
     have c1 := medianAdjacent_count (lt := ltE) d (a + q * 1) 0
     generalize medianAdjacent ltE d (a + q * 1) 0 = r1 at *
     have o2 := medA_ok nb hN d hd (a + q * 2) r1.2 (by omega) (by omega) (by omega)
     have m2 := medianAdjacent_mem ltE d (a + q * 2) r1.2
     have c2 := medianAdjacent_count (lt := ltE) d (a + q * 2) r1.2
     generalize medianAdjacent ltE d (a + q * 2) r1.2 = r2 at *
     have o3 := medA_ok nb hN d hd (a + q * 3) r2.2 (by omega) (by omega) (by omega)
     have m3 := medianAdjacent_mem ltE d (a + q * 3) r2.2
     have c3 := medianAdjacent_count (lt := ltE) d (a + q * 3) r2.2
     generalize medianAdjacent ltE d (a + q * 3) r2.2 = r3 at *
     have o4 := med_ok nb hN d hd r1.1 r2.1 r3.1 r3.2 (by omega) (by omega) (by omega) (by omega)
     generalize median ltE d r1.1 r2.1 r3.1 r3.2 = r4 at *
     clear m1 c1 m2 c2 m3 c3
     rw [show ((0 : Nat) : Int) = 0 from rfl] at o1
     simp (disch := omega) only [gds, enc, et, e1, e2, e3, o1, o2, o3, o4, tail]
   · rw [if_neg h50]
     have o4 := med_ok nb hN d hd (a + q * 1) (a + q * 2) (a + q * 3) 0 (by omega) (by omega) (by omega) (by omega)
     generalize median ltE d (a + q * 1) (a + q * 2) (a + q * 3) 0 = r4 at *
     rw [show ((0 : Nat) : Int) = 0 from rfl] at o4
     simp (disch := omega) only [gds, enc, et, e1, e2, e3, o4, tail]
 · rw [if_neg h8]
   simp (disch := omega) only [gds, enc, et, e1, e2, e3]
   rfl
end
end Go.Proofs.Ytkfnkiejikhglaa.Own
namespace Go.Proofs.Ytkfnkiejikhglaa.Own
open Go Go.Proofs.Ytkfnkiejikhglaa.GD Go.Sort
set_option maxHeartbeats 1000000
theorem b3_1_eq : slices_partialInsertionSortCmpFunc.b3_1 = slices_partialInsertionSortCmpFunc.b3 := rfl
section
variable (nb : Bool) {N : Nat} (hN : N < 65536)
include hN
theorem brkStep_ok {K : Nat} (l : List D) (hl : l.length = N) (a b : Nat) (hab : a + 8 ≤ b) (hb : b ≤ N) (idx : Nat) (h1 : idx ≤ a + (b - a) / 4 * 2 + 1) (st : UInt64 × Array Er) (hd : st.2.size = N) (again : List D → Option (List D)) :
  slices_breakPatternsCmpFunc.b0 (Cl ty tab) K l a b [.int .u64 ((1 <<< bitsLen (b - a) : Nat) : Int)] [.int .i64 idx, .ov 49 nb (ar enE st.2), .pv [.int .u64 (st.1.toNat : Nat)]] again =
   again [.int .i64 ((idx + 1 : Nat) : Int), .ov 49 nb (ar enE (breakStep a (b - a) (1 <<< bitsLen (b - a)) st idx).2), .pv [.int .u64 ((breakStep a (b - a) (1 <<< bitsLen (b - a)) st idx).1.toNat : Nat)]] := by
 unfold slices_breakPatternsCmpFunc.b0 slices_breakPatternsCmpFunc.j0
 have et : ((b : Int) - a).tdiv 4 = (((b - a) / 4 : Nat) : Int) := by rw [← tdivN]; congr 1; omega
 have hm1 : 1 ≤ 1 <<< bitsLen (b - a) := by rw [Nat.shiftLeft_eq]; have := Nat.two_pow_pos (bitsLen (b - a)); omega
 have hm2 : 1 <<< bitsLen (b - a) ≤ 2 * (b - a) := by rw [Nat.shiftLeft_eq, Nat.one_mul]; exact two_pow_bitsLen_le (by omega)
 unfold breakStep
 dsimp only
 have hr : (xorNext st.1).toNat < 18446744073709551616 := (xorNext st.1).toNat_lt
 have ho : (xorNext st.1).toNat &&& (1 <<< bitsLen (b - a) - 1) ≤ 1 <<< bitsLen (b - a) - 1 := Nat.and_le_right
 have hx := xor_ok st.1
 generalize 1 <<< bitsLen (b - a) = m at *
 have hw : IntKind.u64.wrap ((m : Int) - 1) = ((m - 1 : Nat) : Int) := by rw [wrapU (by omega) (by omega)]; omega
 have ha := andU hr (show m - 1 < 18446744073709551616 by omega)
 generalize (xorNext st.1).toNat = r at *
 generalize r &&& (m - 1) = o at *
 have gi := ar_get enE (d := st.2) (i := idx) (by omega)
 rw [show ((idx + 1 : Nat) : Int) = (idx : Int) + 1 by omega]
 by_cases c : b - a ≤ o
 · rw [if_pos c]
   have e1 : ((a : Int) + ((o : Int) - ((b : Int) - a))).toNat = a + (o - (b - a)) := by omega
   have gj := ar_get enE (d := st.2) (i := a + (o - (b - a))) (by omega)
   simp (disch := omega) only [gds, enc, hl, et, hx, hw, ha, gi, gj, e1, ar_swp]
 · rw [if_neg c]
   have e1 : ((a : Int) + (o : Int)).toNat = a + o := by omega
   have gj := ar_get enE (d := st.2) (i := a + o) (by omega)
   simp (disch := omega) only [gds, enc, hl, et, hx, hw, ha, gi, gj, e1, ar_swp]
theorem brk_ok (d : Array Er) (hd : d.size = N) (a b : Nat) (hab : a < b) (hb : b ≤ N) : Cl ty tab 119 [.ov 49 nb (ar enE d), .int .i64 a, .int .i64 b, .fn 102 [.rp [.fn 81 []] 0]] = some [.ov 49 nb (ar enE (breakPatterns d a b))] := by
 refine s_slices_breakPatternsCmpFunc 4 nb _ _ _ ?_
 unfold slices_breakPatternsCmpFunc breakPatterns
 have hl : (ar enE d).length = N := by rw [ar_length]; exact hd
 have et : ((b : Int) - a).tdiv 4 = (((b - a) / 4 : Nat) : Int) := by rw [← tdivN]; congr 1; omega
 dsimp only
 by_cases c : 8 ≤ b - a
 · rw [if_pos c]
   have hp := pow2_ok (b - a) (by omega)
   rw [show ((b - a : Nat) : Int) = (b : Int) - a by omega] at hp
   have hw : IntKind.u64.wrap ((b : Int) - a) = ((UInt64.ofNat (b - a)).toNat : Nat) := by
    rw [wrapU (by omega) (by omega), UInt64.toNat_ofNat', Nat.mod_eq_of_lt (by omega)]; omega
   have ei : (a : Int) + (((b - a) / 4 : Nat) : Int) * 2 - 1 = ((a + (b - a) / 4 * 2 - 1 : Nat) : Int) := by omega
   obtain ⟨i0, hi0⟩ : ∃ i0, i0 = a + (b - a) / 4 * 2 - 1 := ⟨_, rfl⟩
   have sz : ∀ (st : UInt64 × Array Er) (i : Nat), (breakStep a (b - a) (1 <<< bitsLen (b - a)) st i).2.size = st.2.size := fun st i => by unfold breakStep; rw [sz_swp]
   have s1 := fun ag => brkStep_ok nb hN (K := 4) (ar enE d) hl a b (by omega) hb i0 (by omega) (UInt64.ofNat (b - a), d) hd ag
   have s2 := fun ag => brkStep_ok nb hN (K := 4) (ar enE d) hl a b (by omega) hb (i0 + 1) (by omega) (breakStep a (b - a) (1 <<< bitsLen (b - a)) (UInt64.ofNat (b - a), d) i0) (by rw [sz]; exact hd) ag
   have s3 := fun ag => brkStep_ok nb hN (K := 4) (ar enE d) hl a b (by omega) hb (i0 + 1 + 1) (by omega) (breakStep a (b - a) (1 <<< bitsLen (b - a)) (breakStep a (b - a) (1 <<< bitsLen (b - a)) (UInt64.ofNat (b - a), d) i0) (i0 + 1)) (by rw [sz, sz]; exact hd) ag
   have s4 : ∀ (st : UInt64 × Array Er) (ag : List D → Option (List D)), slices_breakPatternsCmpFunc.b0 (Cl ty tab) 4 (ar enE d) a b [.int .u64 ((1 <<< bitsLen (b - a) : Nat) : Int)] [.int .i64 ((i0 + 1 + 1 + 1 : Nat) : Int), .ov 49 nb (ar enE st.2), .pv [.int .u64 (st.1.toNat : Nat)]] ag = some [.ov 49 nb (ar enE st.2)] := fun st ag => by
    unfold slices_breakPatternsCmpFunc.b0 slices_breakPatternsCmpFunc.j0
    simp (disch := omega) only [gds, enc, et]
   simp (disch := omega) only [gds, enc, et, ei, hp, hw]
   rw [← hi0]
   simp only [iter]
   rw [s1, s2, s3, s4]
 · rw [if_neg c]
   simp (disch := omega) only [gds, enc]
theorem shUp_ok {K : Nat} (k : Nat) (l : List D) (hl : l.length = N) (b : Nat) (hb : b ≤ N) (i : Int) (s : Nat) (hs : s < 100) (ag2 : List D → Option (List D)) (vs1 vs3 : List D) (hv1 : ∃ x y, vs1 = x :: .int .i64 (s : Int) :: y) (hv3 : ∃ y, vs3 = .int .i64 i :: y) (j : Nat) (hj : 1 ≤ j) (hjb : j ≤ b) (d : Array Er) (hd : d.size = N) (hk : b < k + j) :
  iter k (slices_partialInsertionSortCmpFunc.b3 (Cl ty tab) K l b ag2 vs1 vs3) [.int .i64 j, .ov 49 nb (ar enE d)] = ag2 [.int .i64 i, .int .i64 ((s + 1 : Nat) : Int), .ov 49 nb (ar enE (shiftUp ltE b j d))] := by
 obtain ⟨x, y, rfl⟩ := hv1
 obtain ⟨z, rfl⟩ := hv3
 refine iter_wf (R := List D) (fun s : Nat × Array Er => [.int .i64 s.1, .ov 49 nb (ar enE s.2)]) (fun t => ag2 [.int .i64 i, .int .i64 ((s + 1 : Nat) : Int), .ov 49 nb (ar enE (shiftUp ltE b t.1 t.2))]) (fun s => b - s.1) (fun s => 1 ≤ s.1 ∧ s.1 ≤ b ∧ s.2.size = N) (fun t ht ag ih => ?_) k (j, d) ⟨hj, hjb, hd⟩ (by dsimp only; omega)
 obtain ⟨j, d⟩ := t
 obtain ⟨h1, h2, h3⟩ := ht
 dsimp only at h1 h2 h3 ih ⊢
 unfold slices_partialInsertionSortCmpFunc.b3
 rw [show ((s + 1 : Nat) : Int) = (s : Int) + 1 by omega]
 rcases Nat.lt_or_ge j b with c | c
 · have g1 := ar_get enE (d := d) (i := j) (by omega)
   have g2 := ar_get enE (d := d) (i := j - 1) (by omega)
   cases hl2 : ltE d[j]! d[j - 1]!
   · rw [shiftUp_no ltE hl2]
     simp (disch := omega) only [gds, enc, hl, g1, g2, less_ok, hl2]
   · rw [shiftUp_yes ltE c hl2]
     have ih' := ih (j + 1, swp d j (j - 1)) ⟨by dsimp only; omega, by dsimp only; omega, by dsimp only; rw [sz_swp]; exact h3⟩ (by dsimp only; omega)
     dsimp only at ih'
     rw [show ((j + 1 : Nat) : Int) = (j : Int) + 1 by omega, show ((s + 1 : Nat) : Int) = (s : Int) + 1 by omega] at ih'
     clear ih
     simp (disch := omega) only [gds, enc, hl, g1, g2, less_ok, hl2, ar_swp]
     exact ih'
 · rw [shiftUp_end ltE c]
   simp (disch := omega) only [gds, enc, hl]
theorem shDn_ok {K : Nat} (k : Nat) (l : List D) (hl : l.length = N) (b : Nat) (hb : b ≤ N) (hK : N < K) (i : Nat) (hi : i < b) (s : Nat) (hs : s < 100) (ag2 : List D → Option (List D)) (vs1 vs3 : List D) (hv1 : ∃ x y, vs1 = x :: .int .i64 (s : Int) :: y) (hv3 : ∃ y, vs3 = .int .i64 (i : Int) :: y) (j : Nat) (hj : j < N) (d : Array Er) (hd : d.size = N) (hk : j < k) :
  iter k (slices_partialInsertionSortCmpFunc.b2 (Cl ty tab) K l b ag2 vs1 vs3) [.int .i64 j, .ov 49 nb (ar enE d)] = ag2 [.int .i64 i, .int .i64 ((s + 1 : Nat) : Int), .ov 49 nb (ar enE (fixUp ltE b i (shiftDown ltE j d)))] := by
 obtain ⟨x, y, rfl⟩ := hv1
 obtain ⟨z, rfl⟩ := hv3
 refine iter_wf (R := List D) (fun s : Nat × Array Er => [.int .i64 s.1, .ov 49 nb (ar enE s.2)]) (fun t => ag2 [.int .i64 i, .int .i64 ((s + 1 : Nat) : Int), .ov 49 nb (ar enE (fixUp ltE b i (shiftDown ltE t.1 t.2)))]) (fun s => s.1) (fun s => s.1 < N ∧ s.2.size = N) (fun t ht ag ih => ?_) k (j, d) ⟨hj, hd⟩ hk
 obtain ⟨j, d⟩ := t
 obtain ⟨h1, h3⟩ := ht
 dsimp only at h1 h3 ih ⊢
 have stop : (bif decide ((2 : Int) ≤ IntKind.i64.wrap ((b : Int) - i)) then iter K (slices_partialInsertionSortCmpFunc.b3 (Cl ty tab) K l b ag2 (x :: .int .i64 (s : Int) :: y) (.int .i64 (i : Int) :: z)) [.int .i64 (IntKind.i64.wrap ((i : Int) + 1)), .ov 49 nb (ar enE d)] else ag2 [.int .i64 i, .int .i64 (IntKind.i64.wrap ((s : Int) + 1)), .ov 49 nb (ar enE d)]) = ag2 [.int .i64 i, .int .i64 ((s + 1 : Nat) : Int), .ov 49 nb (ar enE (fixUp ltE b i d))] := by
  unfold fixUp
  by_cases c : 2 ≤ b - i
  · have hu := shUp_ok nb hN (K := K) K l hl b hb i s hs ag2 (x :: .int .i64 (s : Int) :: y) (.int .i64 (i : Int) :: z) ⟨_, _, rfl⟩ ⟨_, rfl⟩ (i + 1) (by omega) (by omega) d h3 (by omega)
    rw [show ((i + 1 : Nat) : Int) = (i : Int) + 1 by omega] at hu
    rw [if_pos c]
    simp (disch := omega) only [gds, enc, hu]
  · rw [if_neg c, show ((s + 1 : Nat) : Int) = (s : Int) + 1 by omega]
    simp (disch := omega) only [gds, enc]
 unfold slices_partialInsertionSortCmpFunc.b2 slices_partialInsertionSortCmpFunc.j0
 rcases Nat.lt_or_ge 0 j with c | c
 · have g1 := ar_get enE (d := d) (i := j) (by omega)
   have g2 := ar_get enE (d := d) (i := j - 1) (by omega)
   cases hl2 : ltE d[j]! d[j - 1]!
   · rw [shiftDown_no ltE hl2, ← stop]
     simp (disch := omega) only [gds, enc, hl, g1, g2, less_ok, hl2]
   · rw [shiftDown_yes ltE c hl2]
     have ih' := ih (j - 1, swp d j (j - 1)) ⟨by dsimp only; omega, by dsimp only; rw [sz_swp]; exact h3⟩ (by dsimp only; omega)
     dsimp only at ih'
     rw [show ((j - 1 : Nat) : Int) = (j : Int) - 1 by omega] at ih'
     clear ih stop
     rw [← ih']
     simp (disch := omega) only [gds, enc, hl, g1, g2, less_ok, hl2, ar_swp]
 · obtain rfl : j = 0 := by omega
   rw [show shiftDown ltE 0 d = d from rfl, ← stop]
   simp (disch := omega) only [gds, enc, hl]
theorem pins1_ok {K : Nat} (k : Nat) (l : List D) (hl : l.length = N) (a b : Nat) (hab : a < b) (hb : b ≤ N) (hK : N < K) (s : Nat) (hs : s < 100) (ag2 : List D → Option (List D)) (vs1 : List D) (hv1 : ∃ x y, vs1 = x :: .int .i64 (s : Int) :: y) (d : Array Er) (hd : d.size = N) (i : Nat) (hi : a < i) (hib : i ≤ b) (hk : b < k + i) :
  iter k (slices_partialInsertionSortCmpFunc.b1 (Cl ty tab) K l a b ag2 vs1) [.int .i64 i, .ov 49 nb (ar enE d)] =
   if scanSorted ltE d b i = b then some [.bool true, .ov 49 nb (ar enE d)] else if b - a < 50 then some [.bool false, .ov 49 nb (ar enE d)] else
    ag2 [.int .i64 (scanSorted ltE d b i : Nat), .int .i64 ((s + 1 : Nat) : Int), .ov 49 nb (ar enE (fixUp ltE b (scanSorted ltE d b i) (fixDown ltE a (scanSorted ltE d b i) (swp d (scanSorted ltE d b i) (scanSorted ltE d b i - 1)))))] := by
 obtain ⟨x, y, rfl⟩ := hv1
 refine iter_wf (R := List D) (fun t : Nat => [.int .i64 t, .ov 49 nb (ar enE d)]) (fun t => if scanSorted ltE d b t = b then some [.bool true, .ov 49 nb (ar enE d)] else if b - a < 50 then some [.bool false, .ov 49 nb (ar enE d)] else
    ag2 [.int .i64 (scanSorted ltE d b t : Nat), .int .i64 ((s + 1 : Nat) : Int), .ov 49 nb (ar enE (fixUp ltE b (scanSorted ltE d b t) (fixDown ltE a (scanSorted ltE d b t) (swp d (scanSorted ltE d b t) (scanSorted ltE d b t - 1)))))]) (fun t => b - t) (fun t => a < t ∧ t ≤ b) (fun i hi ag ih => ?_) k i ⟨hi, hib⟩ (by omega)
 obtain ⟨h1, h2⟩ := hi
 unfold slices_partialInsertionSortCmpFunc.b1 slices_partialInsertionSortCmpFunc.j1
 rcases Nat.lt_or_ge i b with c | c
 · have g1 := ar_get enE (d := d) (i := i) (by omega)
   have g2 := ar_get enE (d := d) (i := i - 1) (by omega)
   cases hl2 : ltE d[i]! d[i - 1]!
   · have ih' := ih (i + 1) ⟨by omega, by omega⟩ (by omega)
     rw [← scanSorted_yes ltE c hl2, show ((i + 1 : Nat) : Int) = (i : Int) + 1 by omega] at ih'
     rw [← ih']
     clear ih ih'
     simp (disch := omega) only [gds, enc, hl, g1, g2, less_ok, hl2]
   · rw [scanSorted_no ltE hl2, if_neg (show ¬ i = b by omega)]
     clear ih
     by_cases c50 : b - a < 50
     · rw [if_pos c50]
       simp (disch := omega) only [gds, enc, hl, g1, g2, less_ok, hl2]
     · rw [if_neg c50]
       have sz : (swp d i (i - 1)).size = N := by rw [sz_swp]; exact hd
       unfold fixDown
       by_cases c2 : 2 ≤ i - a
       · have hdn := shDn_ok nb hN (K := K) K l hl b hb hK i c s hs ag2 (x :: .int .i64 (s : Int) :: y) [.int .i64 i, .ov 49 nb (ar enE d)] ⟨_, _, rfl⟩ ⟨_, rfl⟩ (i - 1) (by omega) (swp d i (i - 1)) sz (by omega)
         rw [show ((i - 1 : Nat) : Int) = (i : Int) - 1 by omega] at hdn
         rw [if_pos c2, ← hdn]
         clear hdn
         simp (disch := omega) only [gds, enc, hl, g1, g2, less_ok, hl2, ar_swp]
       · rw [if_neg c2]
         unfold fixUp
         by_cases c3 : 2 ≤ b - i
         · have hu := shUp_ok nb hN (K := K) K l hl b hb i s hs ag2 (x :: .int .i64 (s : Int) :: y) [.int .i64 i, .ov 49 nb (ar enE d)] ⟨_, _, rfl⟩ ⟨_, rfl⟩ (i + 1) (by omega) (by omega) (swp d i (i - 1)) sz (by omega)
           rw [show ((i + 1 : Nat) : Int) = (i : Int) + 1 by omega] at hu
           rw [if_pos c3, ← hu, ← b3_1_eq]
           clear hu
           simp (disch := omega) only [gds, enc, hl, g1, g2, less_ok, hl2, ar_swp]
         · omega
 · obtain rfl : i = b := by omega
   rw [scanSorted_end ltE (Nat.le_refl _), if_pos rfl]
   clear ih
   simp (disch := omega) only [gds, enc, hl]
theorem pins_ok (d : Array Er) (hd : d.size = N) (a b : Nat) (hab : a < b) (hb : b ≤ N) : Cl ty tab 122 [.ov 49 nb (ar enE d), .int .i64 a, .int .i64 b, .fn 102 [.rp [.fn 81 []] 0]] = some [.bool (partialInsertionSort ltE d a b).2, .ov 49 nb (ar enE (partialInsertionSort ltE d a b).1)] := by
 refine s_slices_partialInsertionSortCmpFunc (N + 7) nb _ _ _ ?_
 unfold slices_partialInsertionSortCmpFunc partialInsertionSort
 have hl : (ar enE d).length = N := by rw [ar_length]; exact hd
 have := iter_wf (R := List D) (F := slices_partialInsertionSortCmpFunc.b0 (Cl ty tab) (N + 7) (ar enE d) a b) (fun s : Nat × Nat × Array Er => [.int .i64 s.1, .int .i64 s.2.1, .ov 49 nb (ar enE s.2.2)]) (fun s => some [.bool (partialIns ltE a b (5 - s.2.1) s.1 s.2.2).2, .ov 49 nb (ar enE (partialIns ltE a b (5 - s.2.1) s.1 s.2.2).1)]) (fun s => 5 - s.2.1) (fun s => s.2.2.size = N ∧ s.2.1 ≤ 5 ∧ a < s.1 ∧ s.1 ≤ b) (fun s hs ag ih => ?_) (N + 7) (a + 1, 0, d) ⟨hd, by dsimp only; omega, by dsimp only; omega, by dsimp only; omega⟩ (by dsimp only; omega)
 · dsimp only at this
   rw [show ((a + 1 : Nat) : Int) = (a : Int) + 1 by omega] at this
   simp (disch := omega) only [gds, enc]
   exact this
 · obtain ⟨i, s, d'⟩ := s
   obtain ⟨h1, h2, h3, h4⟩ := hs
   dsimp only at h1 h2 h3 h4 ih ⊢
   unfold slices_partialInsertionSortCmpFunc.b0
   by_cases c : s < 5
   · have hp := pins1_ok nb hN (K := N + 7) (N + 7) (ar enE d) hl a b hab hb (by omega) s (by omega) ag [.int .i64 i, .int .i64 s, .ov 49 nb (ar enE d')] ⟨_, _, rfl⟩ d' h1 i h3 h4 (by omega)
     rw [show 5 - s = (5 - (s + 1)) + 1 by omega, partialIns_succ]
     have hle := scanSorted_le ltE d' b _ i (Nat.le_refl _) h4
     generalize scanSorted ltE d' b i = i2 at *
     by_cases cb : i2 = b
     · rw [if_pos cb] at hp ⊢
       simp (disch := omega) only [gds, enc, hp]
     · rw [if_neg cb] at hp ⊢
       by_cases c50 : b - a < 50
       · rw [if_pos c50] at hp ⊢
         simp (disch := omega) only [gds, enc, hp]
       · rw [if_neg c50] at hp ⊢
         have ih' := ih (i2, s + 1, fixUp ltE b i2 (fixDown ltE a i2 (swp d' i2 (i2 - 1)))) ⟨by
           dsimp only
           unfold fixUp fixDown
           split <;> split <;> simp only [sz_shiftUp ltE _ _ _ _ (Nat.le_refl _), sz_shiftDown, sz_swp, h1], by dsimp only; omega, by dsimp only; omega, by dsimp only; omega⟩ (by dsimp only; omega)
         dsimp only at ih'
         rw [ih'] at hp
         clear ih ih'
         simp (disch := omega) only [gds, enc, hp]
   · obtain rfl : s = 5 := by omega
     clear ih
     simp (disch := omega) only [gds, enc]
     rfl
end
end Go.Proofs.Ytkfnkiejikhglaa.Own
namespace Go.Proofs.Ytkfnkiejikhglaa.Own
open Go Go.Proofs.Ytkfnkiejikhglaa.GD Go.Sort
set_option maxHeartbeats 1000000
section
variable (nb : Bool) {N : Nat} (hN : N < 65536)
include hN
theorem peqDn_ok {K : Nat} (k : Nat) (l : List D) (hl : l.length = N) (a i : Nat) (ha : a < i) (hi : i ≤ N) (ag2 : List D → Option (List D)) (vs3 : List D) (hv3 : ∃ y, vs3 = .int .i64 (i : Int) :: y) (d : Array Er) (hd : d.size = N) (j : Nat) (hj : j < N) (hij : i ≤ j + 2) (hk : j < k) :
  iter k (slices_partitionEqualCmpFunc.b2 (Cl ty tab) K l a ag2 vs3) [.int .i64 j, .ov 49 nb (ar enE d)] =
   if i > scanDown (fun x => ltE d[a]! x) d i j then some [.int .i64 i, .ov 49 nb (ar enE d)] else
    ag2 [.int .i64 ((i + 1 : Nat) : Int), .int .i64 ((scanDown (fun x => ltE d[a]! x) d i j - 1 : Nat) : Int), .ov 49 nb (ar enE (swp d i (scanDown (fun x => ltE d[a]! x) d i j)))] := by
 obtain ⟨z, rfl⟩ := hv3
 refine iter_wf (R := List D) (fun t : Nat => [.int .i64 t, .ov 49 nb (ar enE d)]) (fun t => if i > scanDown (fun x => ltE d[a]! x) d i t then some [.int .i64 i, .ov 49 nb (ar enE d)] else
    ag2 [.int .i64 ((i + 1 : Nat) : Int), .int .i64 ((scanDown (fun x => ltE d[a]! x) d i t - 1 : Nat) : Int), .ov 49 nb (ar enE (swp d i (scanDown (fun x => ltE d[a]! x) d i t)))]) (fun t => t) (fun t => t < N ∧ i ≤ t + 2) (fun j hj ag ih => ?_) k j ⟨hj, hij⟩ hk
 obtain ⟨h1, h2⟩ := hj
 unfold slices_partitionEqualCmpFunc.b2 slices_partitionEqualCmpFunc.j0
 rcases Nat.lt_or_ge j i with c | c
 · rw [scanDown_end c, if_pos c]
   clear ih
   simp (disch := omega) only [gds, enc, hl]
 · have g1 := ar_get enE (d := d) (i := a) (by omega)
   have g2 := ar_get enE (d := d) (i := j) (by omega)
   have g3 := ar_get enE (d := d) (i := i) (by omega)
   cases hp : ltE d[a]! d[j]!
   · rw [scanDown_no (p := fun x => ltE d[a]! x) hp, if_neg (show ¬ i > j by omega)]
     clear ih
     rw [show ((i + 1 : Nat) : Int) = (i : Int) + 1 by omega, show ((j - 1 : Nat) : Int) = (j : Int) - 1 by omega]
     simp (disch := omega) only [gds, enc, hl, g1, g2, g3, less_ok, hp, ar_swp]
   · have ih' := ih (j - 1) ⟨by omega, by omega⟩ (by omega)
     rw [← scanDown_yes (p := fun x => ltE d[a]! x) (by omega) c hp, show (((j - 1 : Nat) : Nat) : Int) = (j : Int) - 1 by omega] at ih'
     rw [← ih']
     clear ih ih'
     simp (disch := omega) only [gds, enc, hl, g1, g2, g3, less_ok, hp]
theorem peqUp_ok {K : Nat} (hK : N < K) (k : Nat) (l : List D) (hl : l.length = N) (a j : Nat) (hj : j < N) (ag2 : List D → Option (List D)) (vs1 : List D) (hv1 : ∃ x y, vs1 = x :: .int .i64 (j : Int) :: y) (d : Array Er) (hd : d.size = N) (i : Nat) (hi : a < i) (hij : i ≤ j + 2) (hiN : i ≤ N) (hk : j + 1 - i < k) :
  iter k (slices_partitionEqualCmpFunc.b1 (Cl ty tab) K l a ag2 vs1) [.int .i64 i, .ov 49 nb (ar enE d)] =
   if scanUp (fun x => !ltE d[a]! x) d j i > scanDown (fun x => ltE d[a]! x) d (scanUp (fun x => !ltE d[a]! x) d j i) j then some [.int .i64 (scanUp (fun x => !ltE d[a]! x) d j i : Nat), .ov 49 nb (ar enE d)] else
    ag2 [.int .i64 ((scanUp (fun x => !ltE d[a]! x) d j i + 1 : Nat) : Int), .int .i64 ((scanDown (fun x => ltE d[a]! x) d (scanUp (fun x => !ltE d[a]! x) d j i) j - 1 : Nat) : Int), .ov 49 nb (ar enE (swp d (scanUp (fun x => !ltE d[a]! x) d j i) (scanDown (fun x => ltE d[a]! x) d (scanUp (fun x => !ltE d[a]! x) d j i) j)))] := by
 obtain ⟨x, y, rfl⟩ := hv1
 refine iter_wf (R := List D) (fun t : Nat => [.int .i64 t, .ov 49 nb (ar enE d)]) (fun i => if scanUp (fun x => !ltE d[a]! x) d j i > scanDown (fun x => ltE d[a]! x) d (scanUp (fun x => !ltE d[a]! x) d j i) j then some [.int .i64 (scanUp (fun x => !ltE d[a]! x) d j i : Nat), .ov 49 nb (ar enE d)] else
    ag2 [.int .i64 ((scanUp (fun x => !ltE d[a]! x) d j i + 1 : Nat) : Int), .int .i64 ((scanDown (fun x => ltE d[a]! x) d (scanUp (fun x => !ltE d[a]! x) d j i) j - 1 : Nat) : Int), .ov 49 nb (ar enE (swp d (scanUp (fun x => !ltE d[a]! x) d j i) (scanDown (fun x => ltE d[a]! x) d (scanUp (fun x => !ltE d[a]! x) d j i) j)))]) (fun t => j + 1 - t) (fun t => a < t ∧ t ≤ j + 2 ∧ t ≤ N) (fun i hi ag ih => ?_) k i ⟨hi, hij, hiN⟩ (by omega)
 obtain ⟨h1, h2, h3⟩ := hi
 have dn := peqDn_ok nb hN (K := K) K l hl a i h1 (by omega) ag2 [.int .i64 (i : Int), .ov 49 nb (ar enE d)] ⟨_, rfl⟩ d hd j hj h2 (by omega)
 unfold slices_partitionEqualCmpFunc.b1 slices_partitionEqualCmpFunc.j1
 rcases Nat.lt_or_ge j i with c | c
 · rw [scanUp_end c, ← dn]
   clear ih dn
   simp (disch := omega) only [gds, enc, hl]
 · have g1 := ar_get enE (d := d) (i := a) (by omega)
   have g2 := ar_get enE (d := d) (i := i) (by omega)
   cases hp : ltE d[a]! d[i]!
   · have ih' := ih (i + 1) ⟨by omega, by omega, by omega⟩ (by omega)
     rw [← scanUp_yes (p := fun x => !ltE d[a]! x) c (by simp [hp]), show ((i + 1 : Nat) : Int) = (i : Int) + 1 by omega] at ih'
     rw [← ih']
     clear ih ih' dn
     simp (disch := omega) only [gds, enc, hl, g1, g2, less_ok, hp]
   · rw [scanUp_no (p := fun x => !ltE d[a]! x) (by simp [hp]), ← dn]
     clear ih dn
     simp (disch := omega) only [gds, enc, hl, g1, g2, less_ok, hp]
theorem peq_ok (d : Array Er) (hd : d.size = N) (a b p : Nat) (hab : a < b) (hb : b ≤ N) (hp1 : a ≤ p) (hp2 : p < b) : Cl ty tab 123 [.ov 49 nb (ar enE d), .int .i64 a, .int .i64 b, .int .i64 p, .fn 102 [.rp [.fn 81 []] 0]] = some [.int .i64 ((partitionEqual ltE d a b p).1 : Nat), .ov 49 nb (ar enE (partitionEqual ltE d a b p).2)] := by
 refine s_slices_partitionEqualCmpFunc (N + 2) nb _ _ _ _ ?_
 unfold slices_partitionEqualCmpFunc partitionEqual
 have hl : (ar enE d).length = N := by rw [ar_length]; exact hd
 have g1 := ar_get enE (d := d) (i := a) (by omega)
 have g2 := ar_get enE (d := d) (i := p) (by omega)
 have := iter_wf (R := List D) (F := slices_partitionEqualCmpFunc.b0 (Cl ty tab) (N + 2) (ar enE d) a) (fun s : Nat × Nat × Array Er => [.int .i64 s.1, .int .i64 s.2.1, .ov 49 nb (ar enE s.2.2)]) (fun s => some [.int .i64 ((partEqLoop ltE a s.1 s.2.1 s.2.2).1 : Nat), .ov 49 nb (ar enE (partEqLoop ltE a s.1 s.2.1 s.2.2).2)]) (fun s => s.2.1 + 1 - s.1) (fun s => s.2.2.size = N ∧ a < s.1 ∧ s.1 ≤ s.2.1 + 2 ∧ s.1 ≤ N ∧ s.2.1 < N) (fun s hs ag ih => ?_) (N + 2) (a + 1, b - 1, swp d a p) ⟨by dsimp only; rw [sz_swp]; exact hd, by dsimp only; omega, by dsimp only; omega, by dsimp only; omega, by dsimp only; omega⟩ (by dsimp only; omega)
 · dsimp only at this
   rw [show ((a + 1 : Nat) : Int) = (a : Int) + 1 by omega, show ((b - 1 : Nat) : Int) = (b : Int) - 1 by omega] at this
   simp (disch := omega) only [gds, enc, hl, g1, g2, ar_swp]
   exact this
 · obtain ⟨i, j, d'⟩ := s
   obtain ⟨h1, h2, h3, h5, h4⟩ := hs
   dsimp only at h1 h2 h3 h5 h4 ih ⊢
   unfold slices_partitionEqualCmpFunc.b0
   have up := peqUp_ok nb hN (K := N + 2) (by omega) (N + 2) (ar enE d) hl a j h4 ag [.int .i64 i, .int .i64 j, .ov 49 nb (ar enE d')] ⟨_, _, rfl⟩ d' h1 i h2 h3 h5 (by omega)
   rw [partEqLoop_eq]
   have s1 := scanUp_spec (fun x => !ltE d'[a]! x) d' j _ i rfl
   have s2 := scanDown_le (fun x => ltE d'[a]! x) d' (scanUp (fun x => !ltE d'[a]! x) d' j i) j
   have s3 := scanUp_ge (fun x => !ltE d'[a]! x) d' j i
   generalize scanUp (fun x => !ltE d'[a]! x) d' j i = i2 at *
   generalize scanDown (fun x => ltE d'[a]! x) d' i2 j = j2 at *
   by_cases c : i2 > j2
   · rw [if_pos c] at up ⊢
     clear ih
     simp (disch := omega) only [gds, enc, up]
   · rw [if_neg c] at up ⊢
     rw [ih (i2 + 1, j2 - 1, swp d' i2 j2) ⟨by dsimp only; rw [sz_swp]; exact h1, by dsimp only; omega, by dsimp only; omega, by dsimp only; omega, by dsimp only; omega⟩ (by dsimp only; omega)] at up
     clear ih
     simp (disch := omega) only [gds, enc, up]
theorem parDn_ok {K : Nat} (k : Nat) (l : List D) (hl : l.length = N) (a i : Nat) (ha : a < i) (hi : i ≤ N) (ag2 : List D → Option (List D)) (vs3 : List D) (hv3 : ∃ y, vs3 = .int .i64 (i : Int) :: y) (d : Array Er) (hd : d.size = N) (j : Nat) (hj : j < N) (hij : i ≤ j + 2) (hk : j < k) :
  iter k (slices_partitionCmpFunc.b4 (Cl ty tab) K l a ag2 vs3) [.int .i64 j, .ov 49 nb (ar enE d)] =
   if i > scanDown (fun x => !ltE x d[a]!) d i j then some [.int .i64 (scanDown (fun x => !ltE x d[a]!) d i j : Nat), .bool false, .ov 49 nb (ar enE (swp d (scanDown (fun x => !ltE x d[a]!) d i j) a))] else
    ag2 [.int .i64 ((i + 1 : Nat) : Int), .int .i64 ((scanDown (fun x => !ltE x d[a]!) d i j - 1 : Nat) : Int), .ov 49 nb (ar enE (swp d i (scanDown (fun x => !ltE x d[a]!) d i j)))] := by
 obtain ⟨z, rfl⟩ := hv3
 refine iter_wf (R := List D) (fun t : Nat => [.int .i64 t, .ov 49 nb (ar enE d)]) (fun t => if i > scanDown (fun x => !ltE x d[a]!) d i t then some [.int .i64 (scanDown (fun x => !ltE x d[a]!) d i t : Nat), .bool false, .ov 49 nb (ar enE (swp d (scanDown (fun x => !ltE x d[a]!) d i t) a))] else
    ag2 [.int .i64 ((i + 1 : Nat) : Int), .int .i64 ((scanDown (fun x => !ltE x d[a]!) d i t - 1 : Nat) : Int), .ov 49 nb (ar enE (swp d i (scanDown (fun x => !ltE x d[a]!) d i t)))]) (fun t => t) (fun t => t < N ∧ i ≤ t + 2) (fun j hj ag ih => ?_) k j ⟨hj, hij⟩ hk
 obtain ⟨h1, h2⟩ := hj
 have g1 := ar_get enE (d := d) (i := a) (by omega)
 have g2 := ar_get enE (d := d) (i := j) (by omega)
 unfold slices_partitionCmpFunc.b4 slices_partitionCmpFunc.j0
 rcases Nat.lt_or_ge j i with c | c
 · rw [scanDown_end c, if_pos c]
   clear ih
   simp (disch := omega) only [gds, enc, hl, g1, g2, ar_swp]
 · have g3 := ar_get enE (d := d) (i := i) (by omega)
   cases hp : ltE d[j]! d[a]!
   · have ih' := ih (j - 1) ⟨by omega, by omega⟩ (by omega)
     rw [← scanDown_yes (p := fun x => !ltE x d[a]!) (by omega) c (by simp [hp]), show (((j - 1 : Nat) : Nat) : Int) = (j : Int) - 1 by omega] at ih'
     rw [← ih']
     clear ih ih'
     simp (disch := omega) only [gds, enc, hl, g1, g2, g3, less_ok, hp]
   · rw [scanDown_no (p := fun x => !ltE x d[a]!) (by simp [hp]), if_neg (show ¬ i > j by omega)]
     clear ih
     rw [show ((i + 1 : Nat) : Int) = (i : Int) + 1 by omega, show ((j - 1 : Nat) : Int) = (j : Int) - 1 by omega]
     simp (disch := omega) only [gds, enc, hl, g1, g2, g3, less_ok, hp, ar_swp]
theorem parUp_ok {K : Nat} (hK : N < K) (k : Nat) (l : List D) (hl : l.length = N) (a j : Nat) (hj : j < N) (ag2 : List D → Option (List D)) (vs1 : List D) (hv1 : ∃ x y, vs1 = x :: .int .i64 (j : Int) :: y) (d : Array Er) (hd : d.size = N) (i : Nat) (hi : a < i) (hij : i ≤ j + 2) (hiN : i ≤ N) (hk : j + 1 - i < k) :
  iter k (slices_partitionCmpFunc.b3 (Cl ty tab) K l a ag2 vs1) [.int .i64 i, .ov 49 nb (ar enE d)] =
   if scanUp (fun x => ltE x d[a]!) d j i > scanDown (fun x => !ltE x d[a]!) d (scanUp (fun x => ltE x d[a]!) d j i) j then some [.int .i64 (scanDown (fun x => !ltE x d[a]!) d (scanUp (fun x => ltE x d[a]!) d j i) j : Nat), .bool false, .ov 49 nb (ar enE (swp d (scanDown (fun x => !ltE x d[a]!) d (scanUp (fun x => ltE x d[a]!) d j i) j) a))] else
    ag2 [.int .i64 ((scanUp (fun x => ltE x d[a]!) d j i + 1 : Nat) : Int), .int .i64 ((scanDown (fun x => !ltE x d[a]!) d (scanUp (fun x => ltE x d[a]!) d j i) j - 1 : Nat) : Int), .ov 49 nb (ar enE (swp d (scanUp (fun x => ltE x d[a]!) d j i) (scanDown (fun x => !ltE x d[a]!) d (scanUp (fun x => ltE x d[a]!) d j i) j)))] := by
 obtain ⟨x, y, rfl⟩ := hv1
 refine iter_wf (R := List D) (fun t : Nat => [.int .i64 t, .ov 49 nb (ar enE d)]) (fun i => if scanUp (fun x => ltE x d[a]!) d j i > scanDown (fun x => !ltE x d[a]!) d (scanUp (fun x => ltE x d[a]!) d j i) j then some [.int .i64 (scanDown (fun x => !ltE x d[a]!) d (scanUp (fun x => ltE x d[a]!) d j i) j : Nat), .bool false, .ov 49 nb (ar enE (swp d (scanDown (fun x => !ltE x d[a]!) d (scanUp (fun x => ltE x d[a]!) d j i) j) a))] else
    ag2 [.int .i64 ((scanUp (fun x => ltE x d[a]!) d j i + 1 : Nat) : Int), .int .i64 ((scanDown (fun x => !ltE x d[a]!) d (scanUp (fun x => ltE x d[a]!) d j i) j - 1 : Nat) : Int), .ov 49 nb (ar enE (swp d (scanUp (fun x => ltE x d[a]!) d j i) (scanDown (fun x => !ltE x d[a]!) d (scanUp (fun x => ltE x d[a]!) d j i) j)))]) (fun t => j + 1 - t) (fun t => a < t ∧ t ≤ j + 2 ∧ t ≤ N) (fun i hi ag ih => ?_) k i ⟨hi, hij, hiN⟩ (by omega)
 obtain ⟨h1, h2, h3⟩ := hi
 have dn := parDn_ok nb hN (K := K) K l hl a i h1 (by omega) ag2 [.int .i64 (i : Int), .ov 49 nb (ar enE d)] ⟨_, rfl⟩ d hd j hj h2 (by omega)
 unfold slices_partitionCmpFunc.b3 slices_partitionCmpFunc.j1
 rcases Nat.lt_or_ge j i with c | c
 · rw [scanUp_end c, ← dn]
   clear ih dn
   simp (disch := omega) only [gds, enc, hl]
 · have g1 := ar_get enE (d := d) (i := a) (by omega)
   have g2 := ar_get enE (d := d) (i := i) (by omega)
   cases hp : ltE d[i]! d[a]!
   · rw [scanUp_no (p := fun x => ltE x d[a]!) hp, ← dn]
     clear ih dn
     simp (disch := omega) only [gds, enc, hl, g1, g2, less_ok, hp]
   · have ih' := ih (i + 1) ⟨by omega, by omega, by omega⟩ (by omega)
     rw [← scanUp_yes (p := fun x => ltE x d[a]!) c hp, show ((i + 1 : Nat) : Int) = (i : Int) + 1 by omega] at ih'
     rw [← ih']
     clear ih ih' dn
     simp (disch := omega) only [gds, enc, hl, g1, g2, less_ok, hp]
theorem parLoop_ok (l : List D) (hl : l.length = N) (a : Nat) (i j : Nat) (hi : a < i) (hij : i ≤ j + 2) (hiN : i ≤ N) (hj : j < N) (d : Array Er) (hd : d.size = N) :
  iter (N + 2) (slices_partitionCmpFunc.b2 (Cl ty tab) (N + 2) l a) [.int .i64 i, .int .i64 j, .ov 49 nb (ar enE d)] = some [.int .i64 ((partLoop ltE a i j d).1 : Nat), .bool false, .ov 49 nb (ar enE (swp (partLoop ltE a i j d).2 (partLoop ltE a i j d).1 a))] := by
 refine iter_wf (R := List D) (fun s : Nat × Nat × Array Er => [.int .i64 s.1, .int .i64 s.2.1, .ov 49 nb (ar enE s.2.2)]) (fun s => some [.int .i64 ((partLoop ltE a s.1 s.2.1 s.2.2).1 : Nat), .bool false, .ov 49 nb (ar enE (swp (partLoop ltE a s.1 s.2.1 s.2.2).2 (partLoop ltE a s.1 s.2.1 s.2.2).1 a))]) (fun s => s.2.1 + 1 - s.1) (fun s => s.2.2.size = N ∧ a < s.1 ∧ s.1 ≤ s.2.1 + 2 ∧ s.1 ≤ N ∧ s.2.1 < N) (fun s hs ag ih => ?_) (N + 2) (i, j, d) ⟨hd, hi, hij, hiN, hj⟩ (by dsimp only; omega)
 obtain ⟨i, j, d'⟩ := s
 obtain ⟨h1, h2, h3, h5, h4⟩ := hs
 dsimp only at h1 h2 h3 h5 h4 ih ⊢
 unfold slices_partitionCmpFunc.b2
 have up := parUp_ok nb hN (K := N + 2) (by omega) (N + 2) l hl a j h4 ag [.int .i64 i, .int .i64 j, .ov 49 nb (ar enE d')] ⟨_, _, rfl⟩ d' h1 i h2 h3 h5 (by omega)
 rw [partLoop_eq]
 have s1 := scanUp_spec (fun x => ltE x d'[a]!) d' j _ i rfl
 have s2 := scanDown_le (fun x => !ltE x d'[a]!) d' (scanUp (fun x => ltE x d'[a]!) d' j i) j
 have s3 := scanUp_ge (fun x => ltE x d'[a]!) d' j i
 generalize scanUp (fun x => ltE x d'[a]!) d' j i = i2 at *
 generalize scanDown (fun x => !ltE x d'[a]!) d' i2 j = j2 at *
 by_cases c : i2 > j2
 · rw [if_pos c] at up ⊢
   clear ih
   simp (disch := omega) only [gds, enc, up]
 · rw [if_neg c] at up ⊢
   rw [ih (i2 + 1, j2 - 1, swp d' i2 j2) ⟨by dsimp only; rw [sz_swp]; exact h1, by dsimp only; omega, by dsimp only; omega, by dsimp only; omega, by dsimp only; omega⟩ (by dsimp only; omega)] at up
   clear ih
   simp (disch := omega) only [gds, enc, up]
def parR (nb : Bool) (a i j : Nat) (d : Array Er) : List D :=
 if i > j then [.int .i64 j, .bool true, .ov 49 nb (ar enE (swp d j a))] else
  [.int .i64 ((partLoop ltE a (i + 1) (j - 1) (swp d i j)).1 : Nat), .bool false, .ov 49 nb (ar enE (swp (partLoop ltE a (i + 1) (j - 1) (swp d i j)).2 (partLoop ltE a (i + 1) (j - 1) (swp d i j)).1 a))]
theorem par1_ok (k : Nat) (l : List D) (hl : l.length = N) (a i : Nat) (ha : a < i) (hi : i ≤ N) (vs3 : List D) (hv3 : ∃ y, vs3 = .int .i64 (i : Int) :: y) (d : Array Er) (hd : d.size = N) (j : Nat) (hj : j < N) (hij : i ≤ j + 2) (hk : j < k) :
  iter k (slices_partitionCmpFunc.b1 (Cl ty tab) (N + 2) l a vs3) [.int .i64 j, .ov 49 nb (ar enE d)] = some (parR nb a i (scanDown (fun x => !ltE x d[a]!) d i j) d) := by
 obtain ⟨z, rfl⟩ := hv3
 refine iter_wf (R := List D) (fun t : Nat => [.int .i64 t, .ov 49 nb (ar enE d)]) (fun t => some (parR nb a i (scanDown (fun x => !ltE x d[a]!) d i t) d)) (fun t => t) (fun t => t < N ∧ i ≤ t + 2) (fun j hj ag ih => ?_) k j ⟨hj, hij⟩ hk
 obtain ⟨h1, h2⟩ := hj
 have g1 := ar_get enE (d := d) (i := a) (by omega)
 have g2 := ar_get enE (d := d) (i := j) (by omega)
 unfold slices_partitionCmpFunc.b1 slices_partitionCmpFunc.j2
 rcases Nat.lt_or_ge j i with c | c
 · rw [scanDown_end c]
   unfold parR
   rw [if_pos c]
   clear ih
   simp (disch := omega) only [gds, enc, hl, g1, g2, ar_swp]
 · have g3 := ar_get enE (d := d) (i := i) (by omega)
   cases hp : ltE d[j]! d[a]!
   · have ih' := ih (j - 1) ⟨by omega, by omega⟩ (by omega)
     rw [← scanDown_yes (p := fun x => !ltE x d[a]!) (by omega) c (by simp [hp]), show (((j - 1 : Nat) : Nat) : Int) = (j : Int) - 1 by omega] at ih'
     rw [← ih']
     clear ih ih'
     simp (disch := omega) only [gds, enc, hl, g1, g2, g3, less_ok, hp]
   · rw [scanDown_no (p := fun x => !ltE x d[a]!) (by simp [hp])]
     unfold parR
     rw [if_neg (show ¬ i > j by omega)]
     clear ih
     have pl := parLoop_ok nb hN l hl a (i + 1) (j - 1) (by omega) (by omega) (by omega) (by omega) (swp d i j) (by rw [sz_swp]; exact hd)
     rw [show ((i + 1 : Nat) : Int) = (i : Int) + 1 by omega, show ((j - 1 : Nat) : Int) = (j : Int) - 1 by omega] at pl
     simp (disch := omega) only [gds, enc, hl, g1, g2, g3, less_ok, hp, ar_swp, pl]
theorem par0_ok (k : Nat) (l : List D) (hl : l.length = N) (a b : Nat) (hab : a < b) (hb : b ≤ N) (d : Array Er) (hd : d.size = N) (i : Nat) (hi : a < i) (hib : i ≤ b) (hk : b < k + i) :
  iter k (slices_partitionCmpFunc.b0 (Cl ty tab) (N + 2) l a b) [.int .i64 i, .ov 49 nb (ar enE d)] = some (parR nb a (scanUp (fun x => ltE x d[a]!) d (b - 1) i) (scanDown (fun x => !ltE x d[a]!) d (scanUp (fun x => ltE x d[a]!) d (b - 1) i) (b - 1)) d) := by
 refine iter_wf (R := List D) (fun t : Nat => [.int .i64 t, .ov 49 nb (ar enE d)]) (fun i => some (parR nb a (scanUp (fun x => ltE x d[a]!) d (b - 1) i) (scanDown (fun x => !ltE x d[a]!) d (scanUp (fun x => ltE x d[a]!) d (b - 1) i) (b - 1)) d)) (fun t => b - t) (fun t => a < t ∧ t ≤ b) (fun i hi ag ih => ?_) k i ⟨hi, hib⟩ (by omega)
 obtain ⟨h1, h2⟩ := hi
 have dn := par1_ok nb hN (N + 2) l hl a i h1 (by omega) [.int .i64 (i : Int), .ov 49 nb (ar enE d)] ⟨_, rfl⟩ d hd (b - 1) (by omega) (by omega) (by omega)
 rw [show ((b - 1 : Nat) : Int) = (b : Int) - 1 by omega] at dn
 unfold slices_partitionCmpFunc.b0 slices_partitionCmpFunc.j3
 rcases Nat.lt_or_ge (b - 1) i with c | c
 · rw [scanUp_end c, ← dn]
   clear ih dn
   simp (disch := omega) only [gds, enc, hl]
 · have g1 := ar_get enE (d := d) (i := a) (by omega)
   have g2 := ar_get enE (d := d) (i := i) (by omega)
   cases hp : ltE d[i]! d[a]!
   · rw [scanUp_no (p := fun x => ltE x d[a]!) hp, ← dn]
     clear ih dn
     simp (disch := omega) only [gds, enc, hl, g1, g2, less_ok, hp]
   · have ih' := ih (i + 1) ⟨by omega, by omega⟩ (by omega)
     rw [← scanUp_yes (p := fun x => ltE x d[a]!) c hp, show ((i + 1 : Nat) : Int) = (i : Int) + 1 by omega] at ih'
     rw [← ih']
     clear ih ih' dn
     simp (disch := omega) only [gds, enc, hl, g1, g2, less_ok, hp]
theorem par_ok (d : Array Er) (hd : d.size = N) (a b p : Nat) (hab : a < b) (hb : b ≤ N) (hp1 : a ≤ p) (hp2 : p < b) : Cl ty tab 124 [.ov 49 nb (ar enE d), .int .i64 a, .int .i64 b, .int .i64 p, .fn 102 [.rp [.fn 81 []] 0]] = some [.int .i64 ((partition ltE d a b p).1 : Nat), .bool (partition ltE d a b p).2.1, .ov 49 nb (ar enE (partition ltE d a b p).2.2)] := by
 refine s_slices_partitionCmpFunc (N + 2) nb _ _ _ _ ?_
 unfold slices_partitionCmpFunc
 have hl : (ar enE d).length = N := by rw [ar_length]; exact hd
 have g1 := ar_get enE (d := d) (i := a) (by omega)
 have g2 := ar_get enE (d := d) (i := p) (by omega)
 have e : [D.int .i64 ((partition ltE d a b p).1 : Nat), .bool (partition ltE d a b p).2.1, .ov 49 nb (ar enE (partition ltE d a b p).2.2)] = parR nb a (scanUp (fun x => ltE x (swp d a p)[a]!) (swp d a p) (b - 1) (a + 1)) (scanDown (fun x => !ltE x (swp d a p)[a]!) (swp d a p) (scanUp (fun x => ltE x (swp d a p)[a]!) (swp d a p) (b - 1) (a + 1)) (b - 1)) (swp d a p) := by
  unfold partition parR
  dsimp only
  split <;> rfl
 rw [e]
 have szd : (swp d a p).size = N := by rw [sz_swp]; exact hd
 have p0 := par0_ok nb hN (N + 2) (ar enE d) hl a b hab hb (swp d a p) szd (a + 1) (by omega) (by omega) (by omega)
 rw [show ((a + 1 : Nat) : Int) = (a : Int) + 1 by omega] at p0
 simp (disch := omega) only [gds, enc, hl, g1, g2, ar_swp]
 exact p0
end
end Go.Proofs.Ytkfnkiejikhglaa.Own
namespace Go.Proofs.Ytkfnkiejikhglaa.Own
open Go Go.Proofs.Ytkfnkiejikhglaa.GD Go.Sort
set_option maxHeartbeats 1000000
theorem hintI_inc (h : Hint) : (hintI h == 1) = decide (h = Hint.increasing) := by cases h <;> rfl
theorem hintI_dec (h : Hint) : (hintI h == 2) = decide (h = Hint.decreasing) := by cases h <;> rfl
section
variable (nb : Bool) {N : Nat} (hN : N < 65536) {l : List D} (hl : l.length = N) {a b : Nat} (hab : a + 12 < b) (hb : b ≤ N) (ag : List D → Option (List D)) (l0 : Nat) (wb wp : Bool) (x : D)
include hN hl hab hb
theorem pE0 (d : Array Er) (hd : d.size = N) (h0 : l0 ≠ 0) (h1 : l0 < 1000) :
  slices_pdqsortCmpFunc.b0 (Cl ty tab) (N + 2) l [.int .i64 a, .int .i64 b, .int .i64 l0, .bool wb, .bool wp, .ov 49 nb (ar enE d)] ag =
   slices_pdqsortCmpFunc.j3 (Cl ty tab) (N + 2) l ag [.int .i64 a, .int .i64 b, .int .i64 l0, .bool wb, .bool wp, .ov 49 nb (ar enE d)] ((if _h : (!wb) = true then l0 - 1 else l0 : Nat) : Int) nb (ar enE (if _h : (!wb) = true then breakPatterns d a b else d)) := by
 unfold slices_pdqsortCmpFunc.b0
 have e := brk_ok nb hN d hd a b (by omega) hb
 cases wb
 · rw [dif_pos (show (!false) = true from rfl), dif_pos (show (!false) = true from rfl), show ((l0 - 1 : Nat) : Int) = (l0 : Int) - 1 by omega]
   simp (disch := omega) only [gds, enc, e]
 · rw [dif_neg (show ¬ (!true) = true by simp), dif_neg (show ¬ (!true) = true by simp)]
   simp (disch := omega) only [gds, enc]
theorem pE1 (d : Array Er) (hd : d.size = N) (lim : Int) :
  slices_pdqsortCmpFunc.j3 (Cl ty tab) (N + 2) l ag [.int .i64 a, .int .i64 b, .int .i64 l0, .bool wb, .bool wp, x] lim nb (ar enE d) =
   slices_pdqsortCmpFunc.j2 (Cl ty tab) (N + 2) l ag [.int .i64 a, .int .i64 b, .int .i64 l0, .bool wb, .bool wp, x] lim ((if _h : (choosePivot ltE d a b).2 = Hint.decreasing then (b - 1) - ((choosePivot ltE d a b).1 - a) else (choosePivot ltE d a b).1 : Nat) : Int)
    (hintI (if _h : (choosePivot ltE d a b).2 = Hint.decreasing then Hint.increasing else (choosePivot ltE d a b).2)) nb (ar enE (if _h : (choosePivot ltE d a b).2 = Hint.decreasing then reverseRange d a b else d)) := by
 unfold slices_pdqsortCmpFunc.j3
 have e := piv_ok nb hN d hd a b (by omega) hb
 have e2 := rev_ok nb hN d hd a b (by omega) hb
 have hc := choosePivot_holds ltE d a b (by omega)
 generalize choosePivot ltE d a b = c at *
 obtain ⟨c1, c2⟩ := c
 dsimp only at e hc ⊢
 by_cases h : c2 = Hint.decreasing
 · subst h
   rw [dif_pos rfl, dif_pos rfl, dif_pos rfl, show ((b - 1 - (c1 - a) : Nat) : Int) = (b : Int) - 1 - ((c1 : Int) - a) by omega]
   simp only [hintI] at e ⊢
   simp (disch := omega) only [gds, enc, e, e2]
 · rw [dif_neg h, dif_neg h, dif_neg h]
   have hn : (hintI c2 == 2) = false := by rw [hintI_dec]; simp [h]
   simp (disch := omega) only [enc, grs, e, Option.bind_some, List.getD_cons_zero, List.getD_cons_succ, cell_int, i_int, hn, cf, nb_ov, els_ov]
theorem pE2 (d : Array Er) (hd : d.size = N) (lim p : Int) (h : Hint) :
  slices_pdqsortCmpFunc.j2 (Cl ty tab) (N + 2) l ag [.int .i64 a, .int .i64 b, .int .i64 l0, .bool wb, .bool wp, x] lim p (hintI h) nb (ar enE d) =
   if (if _h : (wb && wp && decide (h = Hint.increasing)) = true then partialInsertionSort ltE d a b else (d, false)).2 = true then some [.ov 49 nb (ar enE (if _h : (wb && wp && decide (h = Hint.increasing)) = true then partialInsertionSort ltE d a b else (d, false)).1)] else
    slices_pdqsortCmpFunc.j1 (Cl ty tab) (N + 2) l ag [.int .i64 a, .int .i64 b, .int .i64 l0, .bool wb, .bool wp, x] lim p nb (ar enE (if _h : (wb && wp && decide (h = Hint.increasing)) = true then partialInsertionSort ltE d a b else (d, false)).1) := by
 unfold slices_pdqsortCmpFunc.j2
 have e := pins_ok nb hN d hd a b (by omega) hb
 rw [hintI_inc]
 generalize partialInsertionSort ltE d a b = r at *
 obtain ⟨r1, r2⟩ := r
 cases wb <;> cases wp <;> cases h <;> cases r2 <;> simp [enc, grs, e, cell_int, cell_bool, b_bool, nb_ov, els_ov, i_int]
theorem pE3 (d : Array Er) (hd : d.size = N) (lim : Int) (p : Nat) (hp1 : a ≤ p) (hp2 : p < b) :
  slices_pdqsortCmpFunc.j1 (Cl ty tab) (N + 2) l ag [.int .i64 a, .int .i64 b, .int .i64 l0, .bool wb, .bool wp, x] lim p nb (ar enE d) =
   if (decide (a > 0) && !ltE d[a - 1]! d[p]!) = true then ag [.int .i64 ((partitionEqual ltE d a b p).1 : Nat), .int .i64 b, .int .i64 lim, .bool wb, .bool wp, .ov 49 nb (ar enE (partitionEqual ltE d a b p).2)] else
    slices_pdqsortCmpFunc.j0 (Cl ty tab) (N + 2) ag [.int .i64 a, .int .i64 b, .int .i64 l0, .bool wb, .bool wp, x] lim p nb (ar enE d) := by
 unfold slices_pdqsortCmpFunc.j1
 have e := peq_ok nb hN d hd a b p (by omega) hb hp1 hp2
 by_cases h0 : 0 < a
 · have g1 := ar_get enE (d := d) (i := a - 1) (by omega)
   have g2 := ar_get enE (d := d) (i := p) (by omega)
   cases hc : ltE d[a - 1]! d[p]!
   · rw [if_pos (show (decide (a > 0) && !false) = true by simp [h0])]
     simp (disch := omega) only [gds, enc, hl, g1, g2, less_ok, hc, e]
   · rw [if_neg (show ¬ (decide (a > 0) && !true) = true by simp)]
     simp (disch := omega) only [gds, enc, hl, g1, g2, less_ok, hc, e]
 · rw [if_neg (show ¬ (decide (a > 0) && !ltE d[a - 1]! d[p]!) = true by simp [h0])]
   simp (disch := omega) only [gds, enc, hl]
theorem pE4L (d : Array Er) (hd : d.size = N) (lim : Nat) (p : Nat) (hp1 : a ≤ p) (hp2 : p < b) (mid : Nat) (ap : Bool) (d4 dL : Array Er) (hx : partition ltE d a b p = (mid, ap, d4)) (hm1 : a ≤ mid) (hm2 : mid < b) (hlt : mid - a < b - mid)
  (hr : Cl ty tab 109 [.ov 49 nb (ar enE d4), .int .i64 a, .int .i64 mid, .int .i64 lim, .fn 102 [.rp [.fn 81 []] 0]] = some [.ov 49 nb (ar enE dL)]) :
  slices_pdqsortCmpFunc.j0 (Cl ty tab) (N + 2) ag [.int .i64 a, .int .i64 b, .int .i64 l0, .bool wb, .bool wp, x] lim p nb (ar enE d) =
   ag [.int .i64 ((mid + 1 : Nat) : Int), .int .i64 b, .int .i64 lim, .bool (decide (mid - a ≥ (b - a) / 8)), .bool ap, .ov 49 nb (ar enE dL)] := by
 unfold slices_pdqsortCmpFunc.j0
 have e := par_ok nb hN d hd a b p (by omega) hb hp1 hp2
 rw [hx] at e
 have et : ((b : Int) - a).tdiv 8 = (((b - a) / 8 : Nat) : Int) := by rw [← tdivN]; congr 1; omega
 have ed : decide ((((b - a) / 8 : Nat) : Int) ≤ (mid : Int) - a) = decide (mid - a ≥ (b - a) / 8) := by
  apply decide_eq_decide.2; omega
 rw [show ((mid + 1 : Nat) : Int) = (mid : Int) + 1 by omega]
 simp (disch := omega) only [gds, enc, e, hr, et, ed]
theorem pE4R (d : Array Er) (hd : d.size = N) (lim : Nat) (p : Nat) (hp1 : a ≤ p) (hp2 : p < b) (mid : Nat) (ap : Bool) (d4 dL : Array Er) (hx : partition ltE d a b p = (mid, ap, d4)) (hm1 : a ≤ mid) (hm2 : mid < b) (hlt : ¬ mid - a < b - mid)
  (hr : Cl ty tab 109 [.ov 49 nb (ar enE d4), .int .i64 ((mid + 1 : Nat) : Int), .int .i64 b, .int .i64 lim, .fn 102 [.rp [.fn 81 []] 0]] = some [.ov 49 nb (ar enE dL)]) :
  slices_pdqsortCmpFunc.j0 (Cl ty tab) (N + 2) ag [.int .i64 a, .int .i64 b, .int .i64 l0, .bool wb, .bool wp, x] lim p nb (ar enE d) =
   ag [.int .i64 a, .int .i64 mid, .int .i64 lim, .bool (decide (b - mid ≥ (b - a) / 8)), .bool ap, .ov 49 nb (ar enE dL)] := by
 unfold slices_pdqsortCmpFunc.j0
 have e := par_ok nb hN d hd a b p (by omega) hb hp1 hp2
 rw [hx] at e
 have et : ((b : Int) - a).tdiv 8 = (((b - a) / 8 : Nat) : Int) := by rw [← tdivN]; congr 1; omega
 have ed : decide ((((b - a) / 8 : Nat) : Int) ≤ (b : Int) - mid) = decide (b - mid ≥ (b - a) / 8) := by
  apply decide_eq_decide.2; omega
 rw [show ((mid + 1 : Nat) : Int) = (mid : Int) + 1 by omega] at hr
 simp (disch := omega) only [gds, enc, e, hr, et, ed]
end
section
variable (nb : Bool) {N : Nat} (hN : N < 65536)
include hN
theorem pdqI_ok (d : Array Er) (a b limit : Nat) (wb wp : Bool) : a ≤ b → b ≤ d.size → Below ltE a b d → d.size = N → limit < 1000 → ∀ (l : List D) (k : Nat), l.length = N → b - a < k →
  iter k (slices_pdqsortCmpFunc.b0 (Cl ty tab) (N + 2) l) [.int .i64 a, .int .i64 b, .int .i64 limit, .bool wb, .bool wp, .ov 49 nb (ar enE d)] = some [.ov 49 nb (ar enE (pdq ltE d a b limit wb wp))] := by
 have hS := swo_ltE
 fun_induction pdq ltE d a b limit wb wp
 case case1 d a b limit wb wp h12 =>
  intro hab hb hB hd hlim l k hl hk
  obtain ⟨k, rfl⟩ : ∃ j, k = j + 1 := ⟨k - 1, by omega⟩
  unfold iter slices_pdqsortCmpFunc.b0
  have e := ins_ok nb hN d hd a b hab (by omega)
  simp (disch := omega) only [gds, enc, e]
 case case2 d a b wb wp h12 =>
  intro hab hb hB hd hlim l k hl hk
  obtain ⟨k, rfl⟩ : ∃ j, k = j + 1 := ⟨k - 1, by omega⟩
  unfold iter slices_pdqsortCmpFunc.b0
  have e := heap_ok nb hN d hd a b (by omega) (by omega)
  simp (disch := omega) only [gds, enc, e]
 case case3 d a b limit wb wp h12 hl0 d1 c d2 hint pi hpi2 =>
  intro hab hb hB hd hlim l k hl hk
  obtain ⟨k, rfl⟩ : ∃ j, k = j + 1 := ⟨k - 1, by omega⟩
  have s1 : PermIn a b d d1 := step_break d hab hb _
  have b1 : b ≤ d1.size := by rw [s1.1]; exact hb
  have s2 : PermIn a b d1 d2 := step_reverse reverseRange_holds d1 hab b1 _
  unfold iter
  rw [pE0 nb hN hl (a := a) (b := b) (by omega) (by omega) _ limit wb wp d hd hl0 hlim, pE1 nb hN hl (a := a) (b := b) (by omega) (by omega) _ limit wb wp _ d1 (by rw [s1.1]; exact hd), pE2 nb hN hl (a := a) (b := b) (by omega) (by omega) _ limit wb wp _ d2 (by rw [s2.1, s1.1]; exact hd), if_pos hpi2]
 case case4 d a b limit0 wb wp h12 hl0 d1 limit c d2 pivot hint pi hpi2 d3 hc mid d4 hx hg ih1 =>
  intro hab hb hB hd hlim l k hl hk
  obtain ⟨k, rfl⟩ : ∃ j, k = j + 1 := ⟨k - 1, by omega⟩
  have s1 : PermIn a b d d1 := step_break d hab hb _
  have b1 : b ≤ d1.size := by rw [s1.1]; exact hb
  have s2 : PermIn a b d1 d2 := step_reverse reverseRange_holds d1 hab b1 _
  have b2 : b ≤ d2.size := by rw [s2.1]; exact b1
  have B2 : Below ltE a b d2 := (hB.perm hb s1).perm b1 s2
  have s3 := step_partial partialInsertionSort_holds hS d2 (a := a) (b := b) (by omega) b2 B2 ((wb && wp && decide (hint = Hint.increasing)) = true)
  have s3' : PermIn a b d2 d3 := s3.1
  have b3 : b ≤ d3.size := by rw [s3'.1]; exact b2
  have B3 : Below ltE a b d3 := B2.perm b2 s3'
  have hc0 := choosePivot_holds ltE d1 a b (by omega)
  have hpv : a ≤ pivot ∧ pivot < b := pivot_range hc0.1 hc0.2 _
  have hd3 : d3.size = N := by rw [s3'.1, s2.1, s1.1]; exact hd
  have hc' := hc
  simp only [zq3, decide_eq_true_eq, Bool.not_eq_true'] at hc
  obtain ⟨hm1, hm2, hs4, hB4, hfin⟩ := round_eq hS (partitionEqual_holds ltE) hc.1 hpv.1 hpv.2 b3 B3 hc.2 hx
  have hll : limit < 1000 := by simp only [limit]; split <;> omega
  unfold iter
  rw [pE0 nb hN hl (a := a) (b := b) (by omega) (by omega) _ limit0 wb wp d hd hl0 hlim, pE1 nb hN hl (a := a) (b := b) (by omega) (by omega) _ limit0 wb wp _ d1 (by rw [s1.1]; exact hd), pE2 nb hN hl (a := a) (b := b) (by omega) (by omega) _ limit0 wb wp _ d2 (by rw [s2.1, s1.1]; exact hd), if_neg hpi2]
  refine (pE3 nb hN hl (a := a) (b := b) (by omega) (by omega) _ limit0 wb wp _ d3 hd3 _ pivot hpv.1 hpv.2).trans ?_
  rw [if_pos hc', hx]
  exact ih1 hm2 (by rw [hs4]; exact b3) hB4 (by rw [hs4]; exact hd3) hll l k hl (by omega)
 case case5 d a b limit wb wp h12 hl0 d1 c d2 pivot hint pi hpi2 d3 hc mid d4 hx hg =>
  intro hab hb hB hd hlim l k hl hk
  have s1 : PermIn a b d d1 := step_break d hab hb _
  have b1 : b ≤ d1.size := by rw [s1.1]; exact hb
  have s2 : PermIn a b d1 d2 := step_reverse reverseRange_holds d1 hab b1 _
  have b2 : b ≤ d2.size := by rw [s2.1]; exact b1
  have B2 : Below ltE a b d2 := (hB.perm hb s1).perm b1 s2
  have s3 := step_partial partialInsertionSort_holds hS d2 (a := a) (b := b) (by omega) b2 B2 ((wb && wp && decide (hint = Hint.increasing)) = true)
  have s3' : PermIn a b d2 d3 := s3.1
  have b3 : b ≤ d3.size := by rw [s3'.1]; exact b2
  have B3 : Below ltE a b d3 := B2.perm b2 s3'
  have hc0 := choosePivot_holds ltE d1 a b (by omega)
  have hpv : a ≤ pivot ∧ pivot < b := pivot_range hc0.1 hc0.2 _
  simp only [zq3, decide_eq_true_eq, Bool.not_eq_true'] at hc
  obtain ⟨g1, g2, _⟩ := round_eq hS (partitionEqual_holds ltE) hc.1 hpv.1 hpv.2 b3 B3 hc.2 hx
  exact absurd ⟨g1, g2⟩ hg
 case case6 d a b limit0 wb wp h12 hl0 d1 limit c d2 pivot hint pi hpi2 d3 hc mid ap d4 hx hg hlt ih3 ih2 ih1 =>
  intro hab hb hB hd hlim l k hl hk
  obtain ⟨k, rfl⟩ : ∃ j, k = j + 1 := ⟨k - 1, by omega⟩
  have s1 : PermIn a b d d1 := step_break d hab hb _
  have b1 : b ≤ d1.size := by rw [s1.1]; exact hb
  have s2 : PermIn a b d1 d2 := step_reverse reverseRange_holds d1 hab b1 _
  have b2 : b ≤ d2.size := by rw [s2.1]; exact b1
  have B2 : Below ltE a b d2 := (hB.perm hb s1).perm b1 s2
  have s3 := step_partial partialInsertionSort_holds hS d2 (a := a) (b := b) (by omega) b2 B2 ((wb && wp && decide (hint = Hint.increasing)) = true)
  have s3' : PermIn a b d2 d3 := s3.1
  have b3 : b ≤ d3.size := by rw [s3'.1]; exact b2
  have B3 : Below ltE a b d3 := B2.perm b2 s3'
  have hc0 := choosePivot_holds ltE d1 a b (by omega)
  have hpv : a ≤ pivot ∧ pivot < b := pivot_range hc0.1 hc0.2 _
  have hd3 : d3.size = N := by rw [s3'.1, s2.1, s1.1]; exact hd
  obtain ⟨g1, g2, hs4, hBa, hBr, hleft, _⟩ := round_part hS (partition_holds ltE) hpv.1 hpv.2 b3 B3 hx
  have hll : limit < 1000 := by simp only [limit]; split <;> omega
  have hrec := ih3 g1 (by rw [hs4]; omega) hBa (by rw [hs4]; exact hd3) hll (ar enE d4) (N + 2) (by rw [ar_length, hs4]; exact hd3) (by omega)
  obtain ⟨l1, l2⟩ := pdq_sorts ltE hS d4 a mid limit true true g1 (by rw [hs4]; omega) hBa
  obtain ⟨hBL, hfin⟩ := hleft _ l1 l2
  have hr : Cl ty tab 109 [.ov 49 nb (ar enE d4), .int .i64 a, .int .i64 mid, .int .i64 limit, .fn 102 [.rp [.fn 81 []] 0]] = some [.ov 49 nb (ar enE (pdq ltE d4 a mid limit true true))] := by
   refine s_slices_pdqsortCmpFunc (N + 2) nb _ _ _ _ ?_
   unfold slices_pdqsortCmpFunc
   exact hrec
  unfold iter
  rw [pE0 nb hN hl (a := a) (b := b) (by omega) (by omega) _ limit0 wb wp d hd hl0 hlim, pE1 nb hN hl (a := a) (b := b) (by omega) (by omega) _ limit0 wb wp _ d1 (by rw [s1.1]; exact hd), pE2 nb hN hl (a := a) (b := b) (by omega) (by omega) _ limit0 wb wp _ d2 (by rw [s2.1, s1.1]; exact hd), if_neg hpi2]
  refine (pE3 nb hN hl (a := a) (b := b) (by omega) (by omega) _ limit0 wb wp _ d3 hd3 _ pivot hpv.1 hpv.2).trans ?_
  rw [if_neg hc]
  refine (pE4L nb hN hl (a := a) (b := b) (by omega) (by omega) _ limit0 wb wp _ d3 hd3 limit pivot hpv.1 hpv.2 mid ap d4 _ hx g1 g2 hlt hr).trans ?_
  exact ih1 (by omega) (by rw [l1.1, hs4]; exact b3) hBL (by rw [l1.1, hs4]; exact hd3) hll l k hl (by omega)
 case case7 d a b limit0 wb wp h12 hl0 d1 limit c d2 pivot hint pi hpi2 d3 hc mid ap d4 hx hg hlt ih3 ih2 ih1 =>
  intro hab hb hB hd hlim l k hl hk
  obtain ⟨k, rfl⟩ : ∃ j, k = j + 1 := ⟨k - 1, by omega⟩
  have s1 : PermIn a b d d1 := step_break d hab hb _
  have b1 : b ≤ d1.size := by rw [s1.1]; exact hb
  have s2 : PermIn a b d1 d2 := step_reverse reverseRange_holds d1 hab b1 _
  have b2 : b ≤ d2.size := by rw [s2.1]; exact b1
  have B2 : Below ltE a b d2 := (hB.perm hb s1).perm b1 s2
  have s3 := step_partial partialInsertionSort_holds hS d2 (a := a) (b := b) (by omega) b2 B2 ((wb && wp && decide (hint = Hint.increasing)) = true)
  have s3' : PermIn a b d2 d3 := s3.1
  have b3 : b ≤ d3.size := by rw [s3'.1]; exact b2
  have B3 : Below ltE a b d3 := B2.perm b2 s3'
  have hc0 := choosePivot_holds ltE d1 a b (by omega)
  have hpv : a ≤ pivot ∧ pivot < b := pivot_range hc0.1 hc0.2 _
  have hd3 : d3.size = N := by rw [s3'.1, s2.1, s1.1]; exact hd
  obtain ⟨g1, g2, hs4, hBa, hBr, _, hright⟩ := round_part hS (partition_holds ltE) hpv.1 hpv.2 b3 B3 hx
  have hll : limit < 1000 := by simp only [limit]; split <;> omega
  have hrec := ih3 (by omega) (by rw [hs4]; exact b3) hBr (by rw [hs4]; exact hd3) hll (ar enE d4) (N + 2) (by rw [ar_length, hs4]; exact hd3) (by omega)
  obtain ⟨l1, l2⟩ := pdq_sorts ltE hS d4 (mid + 1) b limit true true (by omega) (by rw [hs4]; exact b3) hBr
  obtain ⟨hBL, hfin⟩ := hright _ l1 l2
  have hr : Cl ty tab 109 [.ov 49 nb (ar enE d4), .int .i64 ((mid + 1 : Nat) : Int), .int .i64 b, .int .i64 limit, .fn 102 [.rp [.fn 81 []] 0]] = some [.ov 49 nb (ar enE (pdq ltE d4 (mid + 1) b limit true true))] := by
   refine s_slices_pdqsortCmpFunc (N + 2) nb _ _ _ _ ?_
   unfold slices_pdqsortCmpFunc
   exact hrec
  unfold iter
  rw [pE0 nb hN hl (a := a) (b := b) (by omega) (by omega) _ limit0 wb wp d hd hl0 hlim, pE1 nb hN hl (a := a) (b := b) (by omega) (by omega) _ limit0 wb wp _ d1 (by rw [s1.1]; exact hd), pE2 nb hN hl (a := a) (b := b) (by omega) (by omega) _ limit0 wb wp _ d2 (by rw [s2.1, s1.1]; exact hd), if_neg hpi2]
  refine (pE3 nb hN hl (a := a) (b := b) (by omega) (by omega) _ limit0 wb wp _ d3 hd3 _ pivot hpv.1 hpv.2).trans ?_
  rw [if_neg hc]
  refine (pE4R nb hN hl (a := a) (b := b) (by omega) (by omega) _ limit0 wb wp _ d3 hd3 limit pivot hpv.1 hpv.2 mid ap d4 _ hx g1 g2 hlt hr).trans ?_
  exact ih1 g1 (by rw [l1.1, hs4]; omega) hBL (by rw [l1.1, hs4]; exact hd3) hll l k hl (by omega)
 case case8 d a b limit wb wp h12 hl0 d1 c d2 pivot hint pi hpi2 d3 hc mid ap d4 hx hg =>
  intro hab hb hB hd hlim l k hl hk
  have s1 : PermIn a b d d1 := step_break d hab hb _
  have b1 : b ≤ d1.size := by rw [s1.1]; exact hb
  have s2 : PermIn a b d1 d2 := step_reverse reverseRange_holds d1 hab b1 _
  have b2 : b ≤ d2.size := by rw [s2.1]; exact b1
  have B2 : Below ltE a b d2 := (hB.perm hb s1).perm b1 s2
  have s3 := step_partial partialInsertionSort_holds hS d2 (a := a) (b := b) (by omega) b2 B2 ((wb && wp && decide (hint = Hint.increasing)) = true)
  have s3' : PermIn a b d2 d3 := s3.1
  have b3 : b ≤ d3.size := by rw [s3'.1]; exact b2
  have B3 : Below ltE a b d3 := B2.perm b2 s3'
  have hc0 := choosePivot_holds ltE d1 a b (by omega)
  have hpv : a ≤ pivot ∧ pivot < b := pivot_range hc0.1 hc0.2 _
  obtain ⟨g1, g2, _⟩ := round_part hS (partition_holds ltE) hpv.1 hpv.2 b3 B3 hx
  exact absurd ⟨g1, g2⟩ hg
end
theorem sort_ok (nb : Bool) (xs : List Er) (h : xs.length < 65536) : Cl ty tab 101 [.ov 49 nb (xs.map enE), .fn 102 [.rp [.fn 81 []] 0]] = some [.ov 49 nb ((sort ltE xs.toArray).toList.map enE)] := by
 refine s_slices_SortFunc 0 nb _ ?_
 unfold slices_SortFunc
 have hw : IntKind.u64.wrap ((xs.length : Nat) : Int) = ((xs.length : Nat) : Int) := wrapU (by omega) (by omega)
 have l16 : bitsLen xs.length ≤ 16 := (bitsLen_le_iff _ 16).2 (by omega)
 have e := bits_ok xs.length h
 have hp : Cl ty tab 109 [.ov 49 nb (ar enE xs.toArray), .int .i64 ((0 : Nat) : Int), .int .i64 (xs.length : Nat), .int .i64 (bitsLen xs.length : Nat), .fn 102 [.rp [.fn 81 []] 0]] = some [.ov 49 nb (ar enE (pdq ltE xs.toArray 0 xs.length (bitsLen xs.length) true true))] := by
  refine s_slices_pdqsortCmpFunc (xs.length + 2) nb _ _ _ _ ?_
  unfold slices_pdqsortCmpFunc
  exact pdqI_ok nb h xs.toArray 0 xs.length (bitsLen xs.length) true true (Nat.zero_le _) (by simp) (Or.inl rfl) (by simp) (by omega) _ _ (by simp [ar_length]) (by omega)
 rw [ar_of, show ((0 : Nat) : Int) = 0 from rfl] at hp
 simp (disch := omega) only [gds, hw, e, hp]
 rfl
theorem sort_srt (xs : List Er) : (sort ltE xs.toArray).toList.Perm xs ∧ (sort ltE xs.toArray).toList.Pairwise fun a b => ltE b a = false := by
 obtain ⟨⟨h1, h2, h3⟩, h4⟩ := sort_sorts ltE swo_ltE xs.toArray
 have hs : (sort ltE xs.toArray).size = xs.length := by rw [h1]; simp
 refine ⟨?_, ?_⟩
 · have e1 : (sort ltE xs.toArray).extract 0 xs.toArray.size = sort ltE xs.toArray := by
    have : xs.toArray.size = (sort ltE xs.toArray).size := by rw [hs]; simp
    rw [this]; simp
   have e2 : xs.toArray.extract 0 xs.toArray.size = xs.toArray := by simp
   rw [e1, e2] at h3
   simpa using h3
 · rw [List.pairwise_iff_getElem]
   intro i j hi hj hij
   have := h4 i j (Nat.zero_le _) hij (by simpa [hs] using hj)
   have hi' : i < (sort ltE xs.toArray).size := by simpa using hi
   have hj' : j < (sort ltE xs.toArray).size := by simpa using hj
   rw [getElem!_pos _ j hj', getElem!_pos _ i hi'] at this
   simpa using this
end Go.Proofs.Ytkfnkiejikhglaa.Own
namespace Go.Proofs.Ytkfnkiejikhglaa.GD
open Go
section
variable {κ β : Type} [DecidableEq κ] (kd : κ → D) (vd : β → D)
def lookM (x : κ) : List (κ × β) → Option β
 | [] => none
 | (k, v) :: m => if x = k then some v else lookM x m
def putM (x : κ) (y : β) : List (κ × β) → List (κ × β)
 | [] => [(x, y)]
 | (k, v) :: m => if x = k then (k, y) :: m else (k, v) :: putM x y m
def keysM (m : List (κ × β)) : List D := m.map fun e => kd e.1
def valsM (m : List (κ × β)) : List D := m.map fun e => vd e.2
variable (hk : ∀ a b, keqD (kd a) (kd b) = decide (a = b))
include hk
theorem mgetF_ok (x : κ) : ∀ m : List (κ × β), mgetF (kd x) (keysM kd m) (valsM vd m) = (lookM x m).map vd
 | [] => rfl
 | (k, v) :: m => by
  have ih := mgetF_ok x m
  simp only [keysM, valsM, List.map_cons, mgetF, hk, lookM] at ih ⊢
  by_cases h : x = k
  · simp [h]
  · simp [h, ih]
theorem mputK_ok (x : κ) (y : β) : ∀ m : List (κ × β), mputK (kd x) (keysM kd m) = keysM kd (putM x y m)
 | [] => rfl
 | (k, v) :: m => by
  have ih := mputK_ok x y m
  simp only [keysM, List.map_cons, mputK, hk, putM] at ih ⊢
  by_cases h : x = k
  · simp [h]
  · simp [h, ih]
theorem mputV_ok (x : κ) (y : β) : ∀ m : List (κ × β), mputV (kd x) (vd y) (keysM kd m) (valsM vd m) = valsM vd (putM x y m)
 | [] => rfl
 | (k, v) :: m => by
  have ih := mputV_ok x y m
  simp only [keysM, valsM, List.map_cons, mputV, hk, putM] at ih ⊢
  by_cases h : x = k
  · simp [h]
  · simp [h, ih]
omit hk
theorem lookM_put (x z : κ) (y : β) : ∀ m : List (κ × β), lookM z (putM x y m) = if z = x then some y else lookM z m
 | [] => by simp [putM, lookM]
 | (k, v) :: m => by
  have ih := lookM_put x z y m
  by_cases h : x = k
  · subst h
    by_cases hz : z = x <;> simp [putM, lookM, hz]
  · by_cases hz : z = k
    · subst hz
      simp [putM, lookM, h, Ne.symm h]
    · simp [putM, lookM, h, hz, ih]
end
end Go.Proofs.Ytkfnkiejikhglaa.GD
namespace Go.Proofs.Ytkfnkiejikhglaa.Own
open Go Go.Proofs.Ytkfnkiejikhglaa.GD Go.Proofs.Ytkfnkiejikhglaa.GD.Trie Go.Sort
structure Px where
 f : Int
 h : Nat
 l : Nat
 n : Int
deriving DecidableEq, Inhabited
abbrev Px.d (p : Px) : D := P4 p.f p.h p.l p.n
def Er.px (x : Er) : Px := ⟨x.f, x.h, x.l, x.n⟩
structure Nr where
 f : Int
 h : Nat
 l : Nat
 n : Int
 nb : Bool
 vs : List Int
 c0 : Int
 c1 : Int
deriving Inhabited
def ndE (x : Nr) : D := .agg [.int .u8 x.f, .int .u64 (x.h : Int), .int .u64 (x.l : Int), .int .i64 x.n, .sl 3 x.nb (vsD x.vs), .int .i64 x.c0, .int .i64 x.c1]
theorem ndc : (∀ x : Nr, (ndE x).cell 0 = .int .u8 x.f) ∧ (∀ x : Nr, (ndE x).cell 1 = .int .u64 (x.h : Int)) ∧ (∀ x : Nr, (ndE x).cell 2 = .int .u64 (x.l : Int)) ∧ (∀ x : Nr, (ndE x).cell 3 = .int .i64 x.n) ∧ (∀ x : Nr, (ndE x).cell 4 = .sl 3 x.nb (vsD x.vs)) ∧
  (∀ x : Nr, (ndE x).cell 5 = .int .i64 x.c0) ∧ (∀ x : Nr, (ndE x).cell 6 = .int .i64 x.c1) ∧
  (∀ x : Nr, D.agg [.int .u8 x.f, .int .u64 (x.h : Int), .int .u64 (x.l : Int), .int .i64 x.n, .sl 3 x.nb (vsD x.vs), .int .i64 x.c0, .int .i64 x.c1] = ndE x) :=
 ⟨fun _ => rfl, fun _ => rfl, fun _ => rfl, fun _ => rfl, fun _ => rfl, fun _ => rfl, fun _ => rfl, fun _ => rfl⟩
structure Er.good (x : Er) : Prop where
 r : In64 x.h x.l
 nb : x.nb = true → x.vs = []
structure Nr.good (x : Nr) : Prop where
 r : In64 x.h x.l
 nb : x.nb = true → x.vs = []
def incF : List Int → Bool
 | a :: b :: l => decide (a < b) && incF (b :: l)
 | _ => true
def valsOk (l : List Int) : Bool := !l.isEmpty && (decide (l.length ≤ 4000) && (decide (0 ≤ l.headD 0) && incF l))
theorem values_ok (nb : Bool) (v : List Int) : Cl ty tab 76 [.sl 3 nb (vsD v)] = some [.bool (valsOk v)] := by
 obtain ⟨k, hk⟩ := rounds
 refine s_trie_values k _ _ ?_
 unfold trie_values valsOk
 have hlen : (vsD v).length = v.length := by simp
 cases hv : v with
 | nil => simp (disch := omega) only [gds]; simp
 | cons a r =>
  rw [← hv]
  have h0 : ¬ ((v.length : Nat) : Int) = 0 := by rw [hv]; simp; omega
  have he : v.isEmpty = false := by rw [hv]; rfl
  by_cases h1 : v.length ≤ 4000
  · have h2 : ¬ (4000 : Int) < ((v.length : Nat) : Int) := by omega
    have hg0 : (vsD v).getD 0 .undef = D.int .i64 a := by rw [hv]; rfl
    have hh : v.headD 0 = a := by rw [hv]; rfl
    by_cases h3 : a < 0
    · have h4 : ¬ 0 ≤ a := by omega
      simp (disch := omega) only [gds, hlen, h0, he, h1, h2, hg0, h3, h4, hh]
    · have h4 : 0 ≤ a := by omega
      have := iter_ix (F := trie_values.b0 (Cl ty tab) k (vsD v)) (v.length - 1) (fun i => [.int .i64 ((i : Int) + 1)]) (fun i => some [.bool (incF (v.drop i))]) (fun i hi again ha => ?_) (fun again => ?_) k (by omega) 0 (by omega)
      · have e : (0 : Int) + 1 = 1 := rfl
        rw [show ((0 : Nat) : Int) + 1 = 1 from rfl, List.drop_zero] at this
        simp (disch := omega) only [gds, hlen, h0, he, h1, h2, hg0, h3, h4, hh, this]
      · unfold trie_values.b0
        have g1 : (vsD v).getD i .undef = D.int .i64 v[i] := getD_map (by omega)
        have g2 : (vsD v).getD (i + 1) .undef = D.int .i64 v[i + 1] := getD_map (by omega)
        have hd : v.drop i = v[i] :: v[i + 1] :: v.drop (i + 2) := by
         rw [List.drop_eq_getElem_cons (by omega), List.drop_eq_getElem_cons (by omega)]
        have hd1 : v.drop (i + 1) = v[i + 1] :: v.drop (i + 2) := List.drop_eq_getElem_cons (by omega)
        rw [hd1] at ha
        rw [hd]
        unfold incF
        have e1 : (i : Int) + 1 - 1 = i := by omega
        by_cases hlt : v[i] < v[i + 1]
        · have hle : ¬ v[i + 1] ≤ v[i] := by omega
          simp (disch := omega) only [gds, hlen, e1, g1, g2, hlt, hle, Int.natCast_add, Int.natCast_one] at ha ⊢
          exact ha
        · have hle : v[i + 1] ≤ v[i] := by omega
          simp (disch := omega) only [gds, hlen, e1, g1, g2, hlt, hle]
      · unfold trie_values.b0
        have hd : v.drop (v.length - 1) = [v[v.length - 1]'(by rw [hv]; simp)] := by
         rw [List.drop_eq_getElem_cons (by rw [hv]; simp), List.drop_eq_nil_of_le (by omega)]
        have e1 : ¬ (((v.length - 1 : Nat) : Int) + 1) < ((v.length : Nat) : Int) := by omega
        rw [hd]
        simp (disch := omega) only [gds, hlen, e1, incF]
  · have h2 : (4000 : Int) < ((v.length : Nat) : Int) := by omega
    simp (disch := omega) only [gds, hlen, h0, he, h1, h2]
theorem keq_px (a b : Px) : keqD a.d b.d = decide (a = b) := by
 obtain ⟨f, h, l, n⟩ := a
 obtain ⟨f', h', l', n'⟩ := b
 simp only [Px.d, keqD, cellsOf, eqL, eq0, Option.getD_some, Px.mk.injEq, Int.ofNat_inj, beqd, Bool.decide_and, if_true]
def checkE : List (Px × Unit) → List Er → Int
 | _, [] => 0
 | m, x :: r => if checkP x.f x.h x.l x.n ≠ 0 then checkP x.f x.h x.l x.n else if valsOk x.vs = false then 2 else if (lookM x.px m).isSome = true then 14 else checkE (putM x.px () m) r
theorem check_ok (nb : Bool) (L : List Er) (hg : ∀ x, x ∈ L → x.good) (hl : L.length ≤ 9223372036854775807) : Cl ty tab 37 [.sl 49 nb (L.map enE)] = some [.int .i64 (checkE [] L)] := by
 obtain ⟨k, hk⟩ := rounds
 refine s_trie_check k _ _ ?_
 unfold trie_check
 have hlen : (L.map enE).length = L.length := by simp
 refine iter_wf (F := trie_check.b0 (Cl ty tab) k (L.map enE)) (σ := Nat × List (Px × Unit)) (fun s => [.int .i64 s.1, .mpv (keysM Px.d s.2) (valsM (fun _ => D.bool true) s.2)]) (fun s => some [.int .i64 (checkE s.2 (L.drop s.1))]) (fun s => L.length - s.1) (fun s => s.1 ≤ L.length) (fun s hs again ih => ?_) k (0, []) (by simp) (by simp; omega)
 obtain ⟨i, m⟩ := s
 dsimp only at hs ih ⊢
 unfold trie_check.b0
 rcases Nat.lt_or_ge i L.length with hi | hi
 · have g := getD_map (f := enE) hi
   have hd : L.drop i = L[i] :: L.drop (i + 1) := List.drop_eq_getElem_cons hi
   rw [hd]
   have hx := hg L[i] (List.getElem_mem hi)
   generalize L[i] = x at *
   have c1 := check_prefix_ok x.f x.h x.l x.n hx.r
   have c2 := values_ok x.nb x.vs
   unfold checkE
   by_cases h1 : checkP x.f x.h x.l x.n = 0
   · cases h2 : valsOk x.vs
     · simp (disch := omega) only [gds, hlen, g, enc, c1, c2, h1, h2, ne_eq, not_true_eq_false]
     · have m1 := mgetF_ok Px.d (fun _ : Unit => D.bool true) keq_px x.px m
       have m2 := mputK_ok Px.d keq_px x.px () m
       have m3 := mputV_ok Px.d (fun _ : Unit => D.bool true) keq_px x.px () m
       unfold Px.d Er.px at m1 m2 m3
       dsimp only at m1 m2 m3
       have ih' := ih (i + 1, putM x.px () m) hi (by dsimp only; omega)
       dsimp only at ih'
       unfold Er.px Px.d at ih' ⊢
       cases hm : lookM (⟨x.f, x.h, x.l, x.n⟩ : Px) m with
       | some u =>
        rw [hm] at m1
        simp (disch := omega) only [gds, hlen, g, enc, c1, c2, h1, h2, ne_eq, not_true_eq_false, D.mks, D.mvs, m1, Option.map_some, Option.getD_some, Option.isSome_some]
       | none =>
        rw [hm] at m1
        simp (disch := omega) only [gds, hlen, g, enc, c1, c2, h1, h2, ne_eq, not_true_eq_false, D.mks, D.mvs, m1, Option.map_none, Option.getD_none, Option.isSome_none, m2, m3, Int.natCast_add, Int.natCast_one] at ih' ⊢
        exact ih'
   · simp (disch := omega) only [gds, hlen, g, enc, c1, h1, ne_eq, not_false_eq_true]
 · have : i = L.length := by omega
   subst this
   rw [List.drop_length]
   simp (disch := omega) only [gds, hlen, checkE]
theorem checkE_zero : ∀ {m : List (Px × Unit)} {L : List Er}, checkE m L = 0 → (∀ x, x ∈ L → checkP x.f x.h x.l x.n = 0 ∧ valsOk x.vs = true ∧ lookM x.px m = none) ∧ L.Pairwise fun a b => a.px ≠ b.px
 | m, [], _ => ⟨fun x h => (by cases h), List.Pairwise.nil⟩
 | m, x :: r, h => by
  unfold checkE at h
  split at h
  · rename_i h1; exact absurd h h1
  rename_i h1
  split at h
  · cases h
  rename_i h2
  split at h
  · cases h
  rename_i h3
  obtain ⟨g1, g2⟩ := checkE_zero h
  have hx : checkP x.f x.h x.l x.n = 0 ∧ valsOk x.vs = true ∧ lookM x.px m = none := ⟨Classical.not_not.1 h1, by simpa using h2, by simpa using h3⟩
  have hr : ∀ y, y ∈ r → x.px ≠ y.px ∧ lookM y.px m = none := fun y hy => by
   have := (g1 y hy).2.2
   rw [lookM_put] at this
   split at this
   · cases this
   · rename_i hne; exact ⟨Ne.symm hne, this⟩
  exact ⟨fun y hy => by
   rcases List.mem_cons.1 hy with rfl | hy
   · exact hx
   · exact ⟨(g1 y hy).1, (g1 y hy).2.1, (hr y hy).2⟩, List.pairwise_cons.2 ⟨fun y hy => (hr y hy).1, g2⟩⟩
def heldF (L : List Nr) : List Er := (L.filter fun x => !x.vs.isEmpty).map fun x => ⟨x.f, x.h, x.l, x.n, false, x.vs⟩
theorem heldF_app (a b : List Nr) : heldF (a ++ b) = heldF a ++ heldF b := by simp [heldF]
theorem clone_vs {nb : Bool} {v : List Int} (h : nb = true → v = []) (hv : v ≠ []) (hl : v.length ≤ 5000) : Cl ty tab 52 [.sl 3 nb (vsD v)] = some [.ov 3 false (vsD v)] := by
 refine s_slices_Clone_52 0 _ _ ?_
 unfold slices_Clone_52
 have hn : nb = false := by cases nb; rfl; exact absurd (h rfl) hv
 have hlen : (vsD v).length = v.length := by simp
 simp (disch := omega) only [gds, hn, hlen, show (0 + v.length) * 8 ≤ 140737488355328 by omega]
end Go.Proofs.Ytkfnkiejikhglaa.Own
namespace Go.Proofs.Ytkfnkiejikhglaa.Own
open Go Go.Proofs.Ytkfnkiejikhglaa.GD Go.Proofs.Ytkfnkiejikhglaa.GD.Trie Go.Sort
theorem concat_ok (n : Bool) (A B : List D) (n1 n2 : Bool) (hA : A.length < 65536) (hB : B.length < 65536) : ∃ nb, Cl ty tab 79 [.sl 22 n [.sl 69 n1 A, .sl 69 n2 B]] = some [.ov 69 nb (A ++ B)] := by
 have key : ∀ nb0, Cl ty tab 99 [.ov 69 true [], .int .i64 ((A.length + B.length : Nat) : Int)] = some [.ov 69 nb0 []] → ∃ nb, Cl ty tab 79 [.sl 22 n [.sl 69 n1 A, .sl 69 n2 B]] = some [.ov 69 nb (A ++ B)] := fun nb0 hg => by
  refine ⟨B.isEmpty && (A.isEmpty && nb0), ?_⟩
  refine s_slices_Concat 3 n _ ?_
  unfold slices_Concat
  simp only [iter]
  unfold slices_Concat.b0
  have e1 : ((A.length : Nat) : Int) + ((B.length : Nat) : Int) = ((A.length + B.length : Nat) : Int) := by omega
  simp (disch := omega) only [gds, List.getD_cons_zero, Int.zero_add, e1, hg, show ((1 : Int)).toNat = 1 from rfl, show ((0 : Int)).toNat = 0 from rfl, iter]
  unfold slices_Concat.b1
  simp (disch := omega) only [gds, List.getD_cons_zero, Int.zero_add, show ((1 : Int)).toNat = 1 from rfl, show ((0 : Int)).toNat = 0 from rfl, List.length_append]
 refine key (decide (((A.length + B.length : Nat) : Int) = 0)) ?_
 rw [s_slices_Grow, growSpec]
 rw [if_pos ⟨rfl, by omega, by omega⟩]
theorem heldF_take (L : List Nr) (i : Nat) (hi : i < L.length) : heldF (L.take (i + 1)) = heldF (L.take i) ++ (if L[i].vs.isEmpty then [] else [⟨L[i].f, L[i].h, L[i].l, L[i].n, false, L[i].vs⟩]) := by
 rw [List.take_add_one, zq4 hi]
 simp only [Option.toList_some, heldF_app]
 congr 1
 cases h : L[i].vs.isEmpty <;> simp [heldF, h]
theorem heldF_len (L : List Nr) : (heldF L).length ≤ L.length := by simp [heldF, List.length_filter_le]
theorem held_ok (n1 n2 : Bool) (A B : List Nr) (hA : ∀ x, x ∈ A → x.good ∧ x.vs.length ≤ 5000) (hB : ∀ x, x ∈ B → x.good ∧ x.vs.length ≤ 5000) (lA : A.length ≤ 5000) (lB : B.length ≤ 5000) :
  Cl ty tab 42 [.agg [.sl 69 n1 (A.map ndE), .sl 69 n2 (B.map ndE)]] = some [.ov 49 (heldF (A ++ B)).isEmpty ((heldF (A ++ B)).map enE)] := by
 obtain ⟨k, hk⟩ := rounds
 refine s_trie_held k _ _ _ _ ?_
 unfold trie_held
 obtain ⟨nb, hc⟩ := concat_ok false (A.map ndE) (B.map ndE) n1 n2 (by simp; omega) (by simp; omega)
 rw [hc]
 simp only [Option.bind_some]
 rw [← List.map_append]
 have hL : ∀ x, x ∈ A ++ B → x.good ∧ x.vs.length ≤ 5000 := fun x hx => (List.mem_append.1 hx).elim (hA x) (hB x)
 have hl : (A ++ B).length ≤ 10000 := by rw [List.length_append]; omega
 generalize A ++ B = L at *
 have hlen : (L.map ndE).length = L.length := by simp
 have := iter_ix (F := trie_held.b0 (Cl ty tab) k [.ov 69 nb (L.map ndE)]) L.length (fun i => [.ov 49 (heldF (L.take i)).isEmpty ((heldF (L.take i)).map enE), .int .i64 i, .ov 69 nb (L.map ndE)])
  (fun _ => some [.ov 49 (heldF L).isEmpty ((heldF L).map enE)]) (fun i hi again ha => ?_) (fun again => ?_) k (by omega) 0 (by omega)
 · exact this
 · unfold trie_held.b0
   have g := getD_map (f := ndE) hi
   have hx := hL L[i] (List.getElem_mem hi)
   have hb := heldF_len (L.take i)
   rw [heldF_take L i hi] at ha
   rw [List.length_take] at hb
   generalize L[i] = x at *
   generalize heldF (L.take i) = H at *
   have hH : (H.map enE).length = H.length := by simp
   cases hv : x.vs with
   | nil =>
    rw [hv] at ha
    have e0 : (vsD ([] : List Int)).length = 0 := rfl
    simp only [List.isEmpty_nil, if_true, List.append_nil] at ha
    simp (disch := omega) only [gds, hlen, g, ndc, hv, e0, Int.natCast_add, Int.natCast_one, Int.natCast_zero, Int.lt_irrefl] at ha ⊢
    exact ha
   | cons v vs =>
    have hne : x.vs ≠ [] := by rw [hv]; simp
    have he : x.vs.isEmpty = false := by rw [hv]; rfl
    have hcl := clone_vs hx.1.nb hne hx.2
    have e0 : (0 : Int) < ((x.vs.length : Nat) : Int) := by rw [hv]; simp
    rw [he] at ha
    simp only [Bool.false_eq_true, if_false] at ha
    have e2 : ∀ z : Er, (H ++ [z]).isEmpty = false := fun z => by simp
    rw [e2, List.map_append, List.map_cons, List.map_nil] at ha
    have e3 : (H.length + 1) * 56 ≤ 140737488355328 := by omega
    have f1 := enc.2.2.2.2.2.1 ⟨x.f, x.h, x.l, x.n, false, x.vs⟩
    dsimp only at f1
    simp (disch := omega) only [gds, hlen, g, ndc, hcl, e0, e3, hH, f1, Int.natCast_add, Int.natCast_one] at ha ⊢
    exact ha
 · unfold trie_held.b0
   rw [List.take_length]
   simp (disch := omega) only [gds, hlen]
noncomputable def pfOf (f : Int) (k : Bs) : Pf := Classical.epsilon fun p : Pf => p.ok ∧ p.f = f ∧ p.bits = k
def Okb (f : Int) (k : Bs) : Prop := ∃ p : Pf, p.ok ∧ p.f = f ∧ p.bits = k
theorem Okb.sp {f : Int} {k : Bs} (h : Okb f k) : (pfOf f k).ok ∧ (pfOf f k).f = f ∧ (pfOf f k).bits = k := Classical.epsilon_spec (p := fun p : Pf => p.ok ∧ p.f = f ∧ p.bits = k) h
theorem pfOf_eq {p : Pf} (hp : p.ok) : pfOf p.f p.bits = p := by
 have h : Okb p.f p.bits := ⟨p, hp, rfl, rfl⟩
 exact pf_inj h.sp.1 hp h.sp.2.1 h.sp.2.2
theorem pfOf_of {f : Int} {p : Pf} (hp : p.ok) (hf : p.f = f) : pfOf f p.bits = p := by subst hf; exact pfOf_eq hp
theorem Okb.pre {f : Int} {k t : Bs} (h : Okb f k) (ht : t <+: k) : Okb f t := by
 obtain ⟨p, hp, hf, rfl⟩ := h
 have hl := ht.length_le
 rw [p.len] at hl
 have hn := hp.all.2.2.1
 refine ⟨p.cut t.length, cut_ok hp.r hp.all.1 hp.all.2.1 (by omega), hf, ?_⟩
 rw [cut_bits hl hn]
 exact (List.prefix_iff_eq_take.1 ht).symm
noncomputable def erOf (f : Int) (e : En) : Er := ⟨(pfOf f e.k).f, (pfOf f e.k).h, (pfOf f e.k).l, (pfOf f e.k).n, false, e.v⟩
noncomputable def nrOf (f : Int) (x : Nd) : Nr := ⟨(pfOf f x.k).f, (pfOf f x.k).h, (pfOf f x.k).l, (pfOf f x.k).n, x.v.isEmpty, x.v, x.c0, x.c1⟩
noncomputable def enD (f : Int) (e : En) : D := enE (erOf f e)
noncomputable def ndD (f : Int) (x : Nd) : D := ndE (nrOf f x)
def cutI {α : Type} (P : α → Bool) (l : List α) : Nat := (l.takeWhile fun x => !P x).length
theorem cutI_le {α : Type} (P : α → Bool) (l : List α) : cutI P l ≤ l.length := by
 unfold cutI
 exact (List.takeWhile_prefix _).length_le
def firstI {α : Type} (P : α → Bool) (l : List α) : Int := if cutI P l < l.length then (cutI P l : Nat) else -1
theorem first_val {α : Type} {P : α → Bool} {l : List α} {i : Nat} (hi : i < l.length) : (if cutI P (l.drop i) < (l.drop i).length then ((i + cutI P (l.drop i) : Nat) : Int) else -1) = if P l[i] = true then (i : Int) else if cutI P (l.drop (i + 1)) < (l.drop (i + 1)).length then ((i + 1 + cutI P (l.drop (i + 1)) : Nat) : Int) else -1 := by
 rw [List.drop_eq_getElem_cons hi]
 unfold cutI
 rw [List.takeWhile_cons]
 cases h : P l[i]
 · simp only [Bool.not_false, if_true, List.length_cons, Bool.false_eq_true, if_false]
   generalize ((l.drop (i + 1)).takeWhile _).length = c
   generalize (l.drop (i + 1)).length = m
   by_cases hc : c < m
   · rw [if_pos (by omega), if_pos hc]; omega
   · rw [if_neg (by omega), if_neg hc]
 · simp
   omega
theorem bit_fn (x : Er) (p T : Pf) (hx : x.f = p.f ∧ x.h = p.h ∧ x.l = p.l ∧ x.n = p.n) (hp : p.ok) : Cl ty tab 106 [enE x, .rp [.int .u8 T.f, .int .u64 (T.h : Int), .int .u64 (T.l : Int), .int .i64 (T.n : Int)] 0] = some [.bool (Trie.bitAt p.bits T.n)] := by
 unfold enE
 refine s_trie_grow_1_1 0 _ _ _ _ _ _ _ _ _ _ ?_
 unfold trie_grow_1_1
 have h := tbit_ok hp T.n
 obtain ⟨e1, e2, e3, e4⟩ := hx
 rw [e1, e2, e3, e4]
 cases hb : Trie.bitAt p.bits T.n
 · rw [hb] at h
   simp (disch := omega) only [gds, h, bi, Int.reduceEq]
 · rw [hb] at h
   simp (disch := omega) only [gds, h, bi]
theorem idx_bit {f : Int} (nb : Bool) (L : List En) (T : Pf) {m : Nat} (hm : T.n = m) (hL : ∀ e, e ∈ L → Okb f e.k) (hl : L.length ≤ 100000) : Cl ty tab 66 [.sl 49 nb (L.map (enD f)), .fn 106 [.rp [.int .u8 T.f, .int .u64 (T.h : Int), .int .u64 (T.l : Int), .int .i64 (T.n : Int)] 0]] =
  some [.int .i64 (firstI (fun e => Trie.bitAt e.k m) L)] := by
 subst hm
 obtain ⟨k, hk⟩ := rounds
 refine s_slices_IndexFunc_66_v2 k _ _ _ _ _ _ ?_
 unfold slices_IndexFunc_66_v2
 have hlen : (L.map (enD f)).length = L.length := by simp
 have := iter_ix (F := slices_IndexFunc_66_v2.b0 (Cl ty tab) k (L.map (enD f)) T.f T.h T.l T.n) L.length (fun i => [.int .i64 i])
  (fun i => some [.int .i64 (if cutI (fun e : En => Trie.bitAt e.k T.n) (L.drop i) < (L.drop i).length then ((i + cutI (fun e : En => Trie.bitAt e.k T.n) (L.drop i) : Nat) : Int) else -1)]) (fun i hi again ha => ?_) (fun again => ?_) k (by omega) 0 (by omega)
 · rw [List.drop_zero] at this
   simpa [firstI] using this
 · unfold slices_IndexFunc_66_v2.b0
   rw [first_val hi]
   have g : (L.map (enD f)).getD i .undef = enE (erOf f L[i]) := getD_map hi
   have hx := (hL L[i] (List.getElem_mem hi)).sp
   generalize L[i] = e at *
   have hb := bit_fn (erOf f e) (pfOf f e.k) T ⟨rfl, rfl, rfl, rfl⟩ hx.1
   rw [hx.2.2] at hb
   cases hbit : Trie.bitAt e.k T.n
   · rw [hbit] at hb
     simp (disch := omega) only [gds, hlen, g, enc, hb, Int.natCast_add, Int.natCast_one] at ha ⊢
     exact ha
   · rw [hbit] at hb
     simp (disch := omega) only [gds, hlen, g, enc, hb]
 · unfold slices_IndexFunc_66_v2.b0
   rw [List.drop_length]
   simp (disch := omega) only [gds, hlen]
   simp [cutI]
end Go.Proofs.Ytkfnkiejikhglaa.Own
namespace Go.Proofs.Ytkfnkiejikhglaa.Own
open Go Go.Proofs.Ytkfnkiejikhglaa.GD Go.Proofs.Ytkfnkiejikhglaa.GD.Trie Go.Sort
theorem mid_get {lw G : List D} {a : D} : (lw ++ a :: G).getD lw.length .undef = a := by simp [zq1]
theorem mid_set {lw G : List D} {a b : D} : (lw ++ a :: G).set lw.length b = lw ++ b :: G := by simp
theorem pf_dec {p q : Pf} (hp : p.ok) (hq : q.ok) (hf : p.f = q.f) : (decide (p.f = q.f) && (decide ((p.h : Int) = q.h) && (decide ((p.l : Int) = q.l) && decide ((p.n : Int) = q.n)))) = decide (p.bits = q.bits) := by
 by_cases h : p.bits = q.bits
 · have := pf_inj hp hq hf h
   subst this; simp
 · have : ¬ p = q := fun hh => h (by rw [hh])
   rw [decide_eq_false h, Bool.eq_false_iff]
   intro hc
   simp only [zq3, decide_eq_true_eq] at hc
   apply this
   obtain ⟨f, h, l, n⟩ := p
   obtain ⟨f', h', l', n'⟩ := q
   dsimp only at hc
   obtain ⟨h1, h2, h3, h4⟩ := hc
   rw [h1, Int.ofNat_inj.1 h2, Int.ofNat_inj.1 h3, Int.ofNat_inj.1 h4]
theorem zer_cut (t : Bs) (L : List En) : zer t L = L.take (cutI (fun e => Trie.bitAt e.k t.length) L) ∧ ons t L = L.drop (cutI (fun e => Trie.bitAt e.k t.length) L) := by
 have h := zer_ons t L
 have e : cutI (fun e => Trie.bitAt e.k t.length) L = (zer t L).length := rfl
 rw [e]
 generalize zer t L = Z at *
 generalize ons t L = O at *
 subst h
 simp
theorem last_get (e : En) (r : List En) : ((e :: r)[(e :: r).length - 1]'(by simp)) = r.getLastD e := by
 rcases List.eq_nil_or_concat r with rfl | ⟨r', a, rfl⟩
 · rfl
 · rw [List.concat_eq_append, List.getLastD_concat]
   simp
theorem nd_fold (f : Int) (t : Bs) (v : List Int) (z o : Int) : D.agg [.int .u8 (pfOf f t).f, .int .u64 ((pfOf f t).h : Int), .int .u64 ((pfOf f t).l : Int), .int .i64 ((pfOf f t).n : Int), .sl 3 v.isEmpty (vsD v), .int .i64 z, .int .i64 o] = ndD f ⟨t, v, z, o⟩ := rfl
theorem nd_fold0 (f : Int) (t : Bs) (z o : Int) : D.agg [.int .u8 (pfOf f t).f, .int .u64 ((pfOf f t).h : Int), .int .u64 ((pfOf f t).l : Int), .int .i64 ((pfOf f t).n : Int), .sl 3 true [], .int .i64 z, .int .i64 o] = ndD f ⟨t, [], z, o⟩ := rfl
theorem nd_cell : (∀ f t v z o, (ndD f ⟨t, v, z, o⟩).cell 0 = .int .u8 (pfOf f t).f) ∧ (∀ f t v z o, (ndD f ⟨t, v, z, o⟩).cell 1 = .int .u64 ((pfOf f t).h : Int)) ∧ (∀ f t v z o, (ndD f ⟨t, v, z, o⟩).cell 2 = .int .u64 ((pfOf f t).l : Int)) ∧ (∀ f t v z o, (ndD f ⟨t, v, z, o⟩).cell 3 = .int .i64 ((pfOf f t).n : Int)) ∧
  (∀ f t v z o, (ndD f ⟨t, v, z, o⟩).cell 4 = .sl 3 v.isEmpty (vsD v)) ∧ (∀ f t v z o, (ndD f ⟨t, v, z, o⟩).cell 5 = .int .i64 z) ∧ (∀ f t v z o, (ndD f ⟨t, v, z, o⟩).cell 6 = .int .i64 o) := ⟨fun _ _ _ _ _ => rfl, fun _ _ _ _ _ => rfl, fun _ _ _ _ _ => rfl, fun _ _ _ _ _ => rfl, fun _ _ _ _ _ => rfl, fun _ _ _ _ _ => rfl, fun _ _ _ _ _ => rfl⟩
theorem j1_ok {f : Int} {nb : Bool} {R : List En} {lw : List D} {t : Bs} {c : Nat} {G1 G2 : List D} {z o : Int} (hc : c ≤ R.length)
  (h1 : Cl ty tab 104 [.sl 49 nb ((R.take c).map (enD f)), .ov 69 false (lw ++ [ndD f ⟨t, [], 0, 0⟩])] = some [.int .i64 z, .ov 69 false ((lw ++ [ndD f ⟨t, [], 0, 0⟩]) ++ G1)])
  (h2 : Cl ty tab 104 [.sl 49 nb ((R.drop c).map (enD f)), .ov 69 false ((lw ++ [ndD f ⟨t, [], 0, 0⟩]) ++ G1)] = some [.int .i64 o, .ov 69 false (((lw ++ [ndD f ⟨t, [], 0, 0⟩]) ++ G1) ++ G2)]) :
  trie_grow_1.j1 (Cl ty tab) 0 nb (R.map (enD f)) lw [(pfOf f t).d] (c : Int) = some [.int .i64 (lw.length : Nat), .ov 69 false (lw ++ ndD f ⟨t, [], z, o⟩ :: (G1 ++ G2))] := by
 unfold trie_grow_1.j1
 have hlen : (R.map (enD f)).length = R.length := by simp
 have e1 : ((R.map (enD f)).drop 0).take (c - 0) = (R.take c).map (enD f) := by rw [List.drop_zero, Nat.sub_zero, List.map_take]
 have e2 : ((R.map (enD f)).drop c).take (R.length - c) = (R.drop c).map (enD f) := by rw [List.take_of_length_le (by simp), List.map_drop]
 have e3 : ((lw ++ [ndD f ⟨t, [], 0, 0⟩]) ++ G1) ++ G2 = lw ++ ndD f ⟨t, [], 0, 0⟩ :: (G1 ++ G2) := by simp
 rw [e3] at h2
 have e4 : (lw ++ ndD f ⟨t, [], 0, 0⟩ :: (G1 ++ G2)).length = lw.length + (G1.length + G2.length + 1) := by simp
 simp (disch := omega) only [gds, hlen, Int.toNat_zero, e1, e2, nd_fold0, h1, h2, e4]
 rw [mid_get, mid_set]
 simp (disch := omega) only [gds, nd_cell, nd_fold0, List.isEmpty_nil, vsD, List.map_nil]
theorem j0_ok {f : Int} {nb : Bool} {e : En} {R : List En} {lw : List D} {t : Bs} {c : Nat} {G1 G2 : List D} {z o : Int} {v : List Int} (hc : c ≤ R.length) (hv : v.isEmpty = false)
  (h1 : Cl ty tab 104 [.sl 49 nb ((R.take c).map (enD f)), .ov 69 false (lw ++ [ndD f ⟨t, v, 0, 0⟩])] = some [.int .i64 z, .ov 69 false ((lw ++ [ndD f ⟨t, v, 0, 0⟩]) ++ G1)])
  (h2 : Cl ty tab 104 [.sl 49 nb ((R.drop c).map (enD f)), .ov 69 false ((lw ++ [ndD f ⟨t, v, 0, 0⟩]) ++ G1)] = some [.int .i64 o, .ov 69 false (((lw ++ [ndD f ⟨t, v, 0, 0⟩]) ++ G1) ++ G2)]) :
  trie_grow_1.j0 (Cl ty tab) 0 nb ((e :: R).map (enD f)) lw [(pfOf f t).d] [.ov 3 false (vsD v)] (c : Int) = some [.int .i64 (lw.length : Nat), .ov 69 false (lw ++ ndD f ⟨t, v, z, o⟩ :: (G1 ++ G2))] := by
 unfold trie_grow_1.j0
 have hlen : ((e :: R).map (enD f)).length = R.length + 1 := by simp
 have hlen2 : (R.map (enD f)).length = R.length := by simp
 have hdr : (((e :: R).map (enD f)).drop 1).take (R.length + 1 - 1) = R.map (enD f) := by
  show (R.map (enD f)).take R.length = _
  exact List.take_of_length_le (by simp)
 have e1 : ((R.map (enD f)).drop 0).take (c - 0) = (R.take c).map (enD f) := by rw [List.drop_zero, Nat.sub_zero, List.map_take]
 have e2 : ((R.map (enD f)).drop c).take (R.length - c) = (R.drop c).map (enD f) := by rw [List.take_of_length_le (by simp), List.map_drop]
 have e3 : ((lw ++ [ndD f ⟨t, v, 0, 0⟩]) ++ G1) ++ G2 = lw ++ ndD f ⟨t, v, 0, 0⟩ :: (G1 ++ G2) := by simp
 rw [e3] at h2
 have e4 : (lw ++ ndD f ⟨t, v, 0, 0⟩ :: (G1 ++ G2)).length = lw.length + (G1.length + G2.length + 1) := by simp
 have hn' : D.agg [.int .u8 (pfOf f t).f, .int .u64 ((pfOf f t).h : Int), .int .u64 ((pfOf f t).l : Int), .int .i64 ((pfOf f t).n : Int), .sl 3 false (vsD v), .int .i64 0, .int .i64 0] = ndD f ⟨t, v, 0, 0⟩ := by rw [← hv]; rfl
 have m1 : (lw ++ [ndD f ⟨t, [], 0, 0⟩]).getD lw.length .undef = ndD f ⟨t, [], 0, 0⟩ := mid_get
 have m2 : ∀ x, (lw ++ [ndD f ⟨t, [], 0, 0⟩]).set lw.length x = lw ++ [x] := fun x => mid_set
 simp (disch := omega) only [gds, hlen, Int.toNat_zero, Int.toNat_one, hdr, hlen2, e1, e2, nd_fold0, m1, m2, nd_cell, hn', h1, h2, e4]
 rw [mid_get, mid_set]
 simp (disch := omega) only [gds, nd_cell, nd_fold]
set_option maxHeartbeats 1000000 in
theorem grow_1_ok {f : Int} : ∀ (N : Nat) (L : List En), L.length ≤ N → Srt L → (∀ e, e ∈ L → Okb f e.k) → (∀ e, e ∈ L → e.v ≠ [] ∧ e.v.length ≤ 5000) → ∀ (nb nw : Bool) (lw : List D), lw.length + 2 * L.length ≤ 100000 →
  Cl ty tab 104 [.sl 49 nb (L.map (enD f)), .ov 69 nw lw] = some [.int .i64 (ix L lw.length), .ov 69 (nw && L.isEmpty) (lw ++ (growF N lw.length L).map (ndD f))]
 | N, [], _, _, _, _, nb, nw, lw, _ => by
  refine s_trie_grow_1 0 _ _ _ _ ?_
  unfold trie_grow_1
  rw [growF_nil]
  simp [ix]
 | 0, e :: r, h, _, _, _, _, _, _, _ => by simp at h
 | N + 1, e :: r, hN, hs, hk, hv, nb, nw, lw, hl => by
  have sp := split_of hs
  have IH := @grow_1_ok f N
  have hlen : ((e :: r).map (enD f)).length = r.length + 1 := by simp
  have he := (hk e (List.mem_cons_self ..)).sp
  have hla := (hk _ (last_mem e r)).sp
  have ht0 : Okb f (topF e r) := (hk e (List.mem_cons_self ..)).pre (lcp_pre1 _ _)
  have ht := ht0.sp
  have htr := trunk_ok he.1 hla.1 (by rw [he.2.1, hla.2.1])
  have htb := trunk_bits he.1 hla.1
  rw [he.2.2, hla.2.2] at htr htb
  have htop : (pfOf f e.k).cut (lcp e.k (r.getLastD e).k).length = pfOf f (topF e r) := by
   have h1 := pfOf_of (f := f) htb.1 he.2.1
   rw [htb.2] at h1
   exact h1.symm
  rw [htop] at htr
  have htn : (pfOf f (topF e r)).n = (topF e r).length := by rw [← (pfOf f (topF e r)).len, ht.2.2]
  have hdec := pf_dec he.1 ht.1 (by rw [he.2.1, ht.2.1])
  rw [he.2.2, ht.2.2] at hdec
  have g0 : ((e :: r).map (enD f)).getD 0 .undef = enE (erOf f e) := rfl
  have g1 : ((e :: r).map (enD f)).getD r.length .undef = enE (erOf f (r.getLastD e)) := by
   have : ((e :: r).map (enD f)).getD ((e :: r).length - 1) .undef = enD f ((e :: r)[(e :: r).length - 1]'(by simp)) := getD_map (by simp)
   rw [last_get, List.length_cons, Nat.add_sub_cancel] at this
   exact this
  have hve := hv e (List.mem_cons_self ..)
  have hcl := clone_vs (nb := false) (v := e.v) (by simp) hve.1 hve.2
  have hrk : ∀ x, x ∈ restF e r → Okb f x.k := fun x hx => hk x (rest_mem hx)
  have hrv : ∀ x, x ∈ restF e r → x.v ≠ [] ∧ x.v.length ≤ 5000 := fun x hx => hv x (rest_mem hx)
  have happ := sp.app
  have hzc := zer_cut (topF e r) (restF e r)
  simp only [List.length_cons] at hN hl
  have hrl : (restF e r).length ≤ r.length + 1 := by unfold restF; split <;> simp
  have hidx := fun nb => idx_bit (f := f) nb (restF e r) (pfOf f (topF e r)) htn hrk (by omega)
  have hcle := cutI_le (fun x : En => Trie.bitAt x.k (topF e r).length) (restF e r)
  have c1 := fun nb lw' hb => IH (zer (topF e r) (restF e r)) (by have := sp.zl; omega) sp.zs (fun x hx => hrk x (by rw [← happ]; exact List.mem_append_left _ hx)) (fun x hx => hrv x (by rw [← happ]; exact List.mem_append_left _ hx)) nb false lw' hb
  have c2 := fun nb lw' hb => IH (ons (topF e r) (restF e r)) (by have := sp.ol; omega) sp.os (fun x hx => hrk x (by rw [← happ]; exact List.mem_append_right _ hx)) (fun x hx => hrv x (by rw [← happ]; exact List.mem_append_right _ hx)) nb false lw' hb
  have hgl : ∀ b, (growF N b (zer (topF e r) (restF e r))).length ≤ 2 * (zer (topF e r) (restF e r)).length - 1 := fun b => by
   by_cases h0 : zer (topF e r) (restF e r) = []
   · rw [h0, growF_nil]; simp
   · have := (grow_len N b _ sp.zs (by have := sp.zl; omega) h0).2
     omega
  have hzl : (zer (topF e r) (restF e r)).length + (ons (topF e r) (restF e r)).length = (restF e r).length := by rw [← List.length_append, happ]
  have htwo := fun h => let t := sp.two h; And.intro (List.length_pos_iff.2 t.1) (List.length_pos_iff.2 t.2)
  rw [hzc.1] at c1 hgl hzl htwo
  rw [hzc.2] at c2 hzl htwo
  have hgrow : growF (N + 1) lw.length (e :: r) = ⟨topF e r, if e.k = topF e r then e.v else [], ix ((restF e r).take (cutI (fun x : En => Trie.bitAt x.k (topF e r).length) (restF e r))) (lw.length + 1), ix ((restF e r).drop (cutI (fun x : En => Trie.bitAt x.k (topF e r).length) (restF e r))) (lw.length + 1 + (growF N (lw.length + 1) ((restF e r).take (cutI (fun x : En => Trie.bitAt x.k (topF e r).length) (restF e r)))).length)⟩ ::
   (growF N (lw.length + 1) ((restF e r).take (cutI (fun x : En => Trie.bitAt x.k (topF e r).length) (restF e r))) ++ growF N (lw.length + 1 + (growF N (lw.length + 1) ((restF e r).take (cutI (fun x : En => Trie.bitAt x.k (topF e r).length) (restF e r)))).length) ((restF e r).drop (cutI (fun x : En => Trie.bitAt x.k (topF e r).length) (restF e r)))) := by
   rw [growF, hzc.1, hzc.2]
  have htopk : topF e r = lcp e.k (r.getLastD e).k := rfl
  rw [hgrow]
  clear hgrow hzc sp IH happ
  have hix : ix (e :: r) lw.length = (lw.length : Nat) := rfl
  rw [hix]
  have hisE : (nw && (e :: r).isEmpty) = false := by simp
  rw [hisE]
  generalize hT : pfOf f (topF e r) = T at *
  have hcell : ∀ (c : Nat) (R : List En), (R.map (enD f)).take c = (R.take c).map (enD f) ∧ (R.map (enD f)).drop c = (R.drop c).map (enD f) := fun c R => ⟨List.map_take.symm, List.map_drop.symm⟩
  refine s_trie_grow_1 0 _ _ _ _ ?_
  unfold trie_grow_1
  have al : (lw.length + 1) * 72 ≤ 140737488355328 := by omega
  have htr' : Cl ty tab 105 [.agg [.int .u8 (erOf f e).f, .int .u64 ((erOf f e).h : Int), .int .u64 ((erOf f e).l : Int), .int .i64 (erOf f e).n], .agg [.int .u8 (erOf f (r.getLastD e)).f, .int .u64 ((erOf f (r.getLastD e)).h : Int), .int .u64 ((erOf f (r.getLastD e)).l : Int), .int .i64 (erOf f (r.getLastD e)).n]] = some [.agg [.int .u8 T.f, .int .u64 (T.h : Int), .int .u64 (T.l : Int), .int .i64 (T.n : Int)]] := htr
  have hdec' : (decide ((erOf f e).f = T.f) && (decide (((erOf f e).h : Int) = T.h) && (decide (((erOf f e).l : Int) = T.l) && decide ((erOf f e).n = T.n)))) = decide (e.k = topF e r) := hdec
  have hcl' : Cl ty tab 52 [.sl 3 (erOf f e).nb (vsD (erOf f e).vs)] = some [.ov 3 false (vsD e.v)] := hcl
  generalize hR : restF e r = R at *
  by_cases hown : e.k = topF e r
  · have hrest : r = R := by rw [← hR]; unfold restF; exact (if_pos hown).symm
    subst hrest
    rw [if_pos hown]
    rw [decide_eq_true hown] at hdec'
    have hdr : (((e :: r).map (enD f)).drop 1).take r.length = r.map (enD f) := by
     show (r.map (enD f)).take r.length = _
     exact List.take_of_length_le (by simp)
    have hlen2 : (r.map (enD f)).length = r.length := by simp
    have hve0 : e.v.isEmpty = false := by simpa using hve.1
    generalize hc : cutI (fun x : En => Trie.bitAt x.k (topF e r).length) r = c at *
    have hlt : (r.take c).length + (r.drop c).length = r.length := hzl
    have d1 := c1 nb (lw ++ [ndD f ⟨topF e r, e.v, 0, 0⟩]) (by rw [List.length_append, List.length_singleton]; omega)
    have hg := hgl (lw.length + 1)
    have hgz : ((r.take c).length) ≤ r.length := by omega
    rw [List.length_append, List.length_singleton] at d1
    have d2 := c2 nb ((lw ++ [ndD f ⟨topF e r, e.v, 0, 0⟩]) ++ (growF N (lw.length + 1) (r.take c)).map (ndD f)) (by rw [List.length_append, List.length_append, List.length_singleton, List.length_map]; omega)
    rw [List.length_append, List.length_append, List.length_singleton, List.length_map] at d2
    have hj := j0_ok (f := f) (e := e) (t := topF e r) hcle hve0 d1 d2
    rw [hT] at hj
    rw [← List.map_append, ← List.map_cons] at hj
    have hi := hidx nb
    have hfirst : firstI (fun x : En => Trie.bitAt x.k (topF e r).length) r = if c < r.length then ((c : Nat) : Int) else -1 := by unfold firstI; rw [hc]
    rw [hfirst] at hi
    by_cases hcl2 : c < r.length
    · rw [if_pos hcl2] at hi
      simp (disch := omega) only [gds, hlen, g0, g1, enc, htr', al, hdec', Nat.add_sub_cancel, Int.toNat_one, hdr, hlen2, hi, hcl']
      exact hj
    · rw [if_neg hcl2] at hi
      have : c = r.length := by omega
      rw [this] at hj ⊢
      simp (disch := omega) only [gds, hlen, g0, g1, enc, htr', al, hdec', Nat.add_sub_cancel, Int.toNat_one, hdr, hlen2, hi, hcl', Int.reduceNeg, Int.reduceLT]
      exact hj
  · have hrest : e :: r = R := by rw [← hR]; unfold restF; exact (if_neg hown).symm
    subst hrest
    rw [if_neg hown]
    rw [decide_eq_false hown] at hdec'
    generalize hc : cutI (fun x : En => Trie.bitAt x.k (topF e r).length) (e :: r) = c at *
    have hlt : ((e :: r).take c).length + ((e :: r).drop c).length = (e :: r).length := hzl
    have hl1 : (e :: r).length = r.length + 1 := rfl
    have ht2 := htwo hown
    have d1 := c1 nb (lw ++ [ndD f ⟨topF e r, [], 0, 0⟩]) (by rw [List.length_append, List.length_singleton]; omega)
    have hg := hgl (lw.length + 1)
    rw [List.length_append, List.length_singleton] at d1
    have d2 := c2 nb ((lw ++ [ndD f ⟨topF e r, [], 0, 0⟩]) ++ (growF N (lw.length + 1) ((e :: r).take c)).map (ndD f)) (by rw [List.length_append, List.length_append, List.length_singleton, List.length_map]; omega)
    rw [List.length_append, List.length_append, List.length_singleton, List.length_map] at d2
    have hj := j1_ok (f := f) (t := topF e r) hcle d1 d2
    rw [hT] at hj
    rw [← List.map_append, ← List.map_cons (f := ndD f)] at hj
    have hi := hidx nb
    have hfirst : firstI (fun x : En => Trie.bitAt x.k (topF e r).length) (e :: r) = if c < r.length + 1 then ((c : Nat) : Int) else -1 := by unfold firstI; rw [hc]; rfl
    rw [hfirst] at hi
    by_cases hcl2 : c < r.length + 1
    · rw [if_pos hcl2] at hi
      simp (disch := omega) only [gds, hlen, g0, g1, enc, htr', al, hdec', Nat.add_sub_cancel, hi]
      exact hj
    · rw [if_neg hcl2] at hi
      have : c = r.length + 1 := by omega
      rw [this] at hj ⊢
      simp (disch := omega) only [gds, hlen, g0, g1, enc, htr', al, hdec', Nat.add_sub_cancel, hi, Int.reduceNeg, Int.reduceLT]
      exact hj
end Go.Proofs.Ytkfnkiejikhglaa.Own
namespace Go.Proofs.Ytkfnkiejikhglaa.Own
open Go Go.Proofs.Ytkfnkiejikhglaa.GD Go.Proofs.Ytkfnkiejikhglaa.GD.Trie Go.Sort
theorem grow_ok {f : Int} (L : List En) (hs : Srt L) (hk : ∀ e, e ∈ L → Okb f e.k) (hv : ∀ e, e ∈ L → e.v ≠ [] ∧ e.v.length ≤ 5000) (hl : L.length ≤ 20000) (nb : Bool) :
  Cl ty tab 83 [.sl 49 nb (L.map (enD f))] = some [.ov 69 L.isEmpty ((grow L).map (ndD f))] := by
 refine s_trie_grow 0 _ _ ?_
 unfold trie_grow
 have h := grow_1_ok L.length L (Nat.le_refl _) hs hk hv nb true [] (by rw [List.length_nil]; omega)
 simp (disch := omega) only [gds, h]
 rfl
structure Er.vd (x : Er) : Prop where
 r : In64 x.h x.l
 c : checkP x.f x.h x.l x.n = 0
 nb : x.nb = false
 vs : x.vs ≠ [] ∧ x.vs.length ≤ 5000
def Er.pf (x : Er) : Pf := ⟨x.f, x.h, x.l, x.n.toNat⟩
def Er.en (x : Er) : En := ⟨x.pf.bits, x.vs⟩
theorem Er.vd.n0 {x : Er} (h : x.vd) : x.n = (x.pf.n : Nat) := by
 have := h.c
 unfold checkP at this
 split at this
 · cases this
 · split at this
   · rename_i hc
     show x.n = (x.n.toNat : Nat)
     omega
   · cases this
theorem Er.vd.ok {x : Er} (h : x.vd) : x.pf.ok := by
 refine ⟨h.r, ?_⟩
 show checkP x.f x.h x.l (x.pf.n : Nat) = 0
 rw [← h.n0]
 exact h.c
theorem Er.vd.asEn {x : Er} (h : x.vd) : enE x = enD x.f x.en := by
 unfold enD erOf Er.en
 dsimp only
 rw [show x.f = x.pf.f from rfl, pfOf_eq h.ok]
 have := h.n0
 have h2 := h.nb
 obtain ⟨f, hh, l, n, nb, vs⟩ := x
 dsimp only at this h2
 subst h2
 simp only [Er.pf] at this ⊢
 rw [← this]
theorem Er.vd.okb {x : Er} (h : x.vd) : Okb x.f x.en.k := ⟨x.pf, h.ok, rfl, rfl⟩
theorem Er.vd.fam {x : Er} (h : x.vd) : x.f = 4 ∨ x.f = 6 := by
 rcases h.ok.fam with ⟨h, _⟩ | ⟨h, _⟩
 · exact .inl h
 · exact .inr h
theorem ltE_vd {x y : Er} (hx : x.vd) (hy : y.vd) : ltE x y = true ↔ x.f < y.f ∨ (x.f = y.f ∧ klt x.en.k y.en.k = true) := by
 unfold ltE cmpE
 rw [hx.n0, hy.n0]
 have := cmpR_ok hx.ok hy.ok
 rw [decide_eq_true_eq]
 rw [show cmpR x.f x.h x.l (x.pf.n : Nat) y.f y.h y.l (y.pf.n : Nat) = ordP x.pf y.pf from this]
 exact ordP_lt
theorem vd_inj {x y : Er} (hx : x.vd) (hy : y.vd) (hf : x.f = y.f) (hk : x.en.k = y.en.k) : x.px = y.px := by
 have h1 := pf_inj hx.ok hy.ok hf hk
 have h2 : x.h = y.h := congrArg Pf.h h1
 have h3 : x.l = y.l := congrArg Pf.l h1
 have h4 : x.n = y.n := by rw [hx.n0, hy.n0, h1]
 unfold Er.px
 rw [hf, h2, h3, h4]
def sortE (xs : List Er) : List Er := (sort ltE xs.toArray).toList
theorem sortE_perm (xs : List Er) : (sortE xs).Perm xs := (sort_srt xs).1
theorem sortE_lt {xs : List Er} (h : ∀ x, x ∈ xs → x.vd) (hd : xs.Pairwise fun a b => a.px ≠ b.px) : (sortE xs).Pairwise fun a b => ltE a b = true := by
 have h1 := (sort_srt xs).2
 have h2 : (sortE xs).Pairwise fun a b => a.px ≠ b.px := ((sortE_perm xs).pairwise_iff (fun h => Ne.symm h)).2 hd
 have h3 : ∀ x, x ∈ sortE xs → x.vd := fun x hx => h x ((sortE_perm xs).mem_iff.1 hx)
 have h4 := List.Pairwise.and h1 h2
 refine h4.imp_of_mem fun {a b} ha hb hab => ?_
 have va := h3 a ha
 have vb := h3 b hb
 rw [ltE_vd va vb]
 have hn : ¬ (b.f < a.f ∨ (b.f = a.f ∧ klt b.en.k a.en.k = true)) := by rw [← ltE_vd vb va, hab.1]; simp
 by_cases hf : a.f = b.f
 · refine .inr ⟨hf, ?_⟩
   rcases klt_tri a.en.k b.en.k with g | g | g
   · exact g
   · exact absurd (vd_inj va vb hf g) hab.2
   · exact absurd (.inr ⟨hf.symm, g⟩) hn
 · left; omega
def famE (f : Int) (xs : List Er) : List En := ((sortE xs).filter fun x => decide (x.f = f)).map Er.en
theorem famE_ok {f : Int} {xs : List Er} (h : ∀ x, x ∈ xs → x.vd) (hd : xs.Pairwise fun a b => a.px ≠ b.px) : Srt (famE f xs) ∧ (∀ e, e ∈ famE f xs → Okb f e.k) ∧ (∀ e, e ∈ famE f xs → e.v ≠ [] ∧ e.v.length ≤ 5000) ∧ (famE f xs).length ≤ xs.length := by
 have h3 : ∀ x, x ∈ sortE xs → x.vd := fun x hx => h x ((sortE_perm xs).mem_iff.1 hx)
 refine ⟨?_, fun e he => ?_, fun e he => ?_, ?_⟩
 · unfold famE Srt
   rw [List.pairwise_map]
   refine ((sortE_lt h hd).filter _).imp_of_mem fun {a b} ha hb hab => ?_
   rw [List.mem_filter] at ha hb
   have e1 : a.f = f := by simpa using ha.2
   have e2 : b.f = f := by simpa using hb.2
   rcases (ltE_vd (h3 a ha.1) (h3 b hb.1)).1 hab with g | g
   · omega
   · exact g.2
 · obtain ⟨x, hx, rfl⟩ := List.mem_map.1 he
   rw [List.mem_filter] at hx
   have e1 : x.f = f := by simpa using hx.2
   have := (h3 x hx.1).okb
   rwa [e1] at this
 · obtain ⟨x, hx, rfl⟩ := List.mem_map.1 he
   rw [List.mem_filter] at hx
   exact (h3 x hx.1).vs
 · unfold famE
   rw [List.length_map]
   have := List.length_filter_le (fun x : Er => decide (x.f = f)) (sortE xs)
   rw [(sortE_perm xs).length_eq] at this
   exact this
theorem fam6_fn (x : Er) : Cl ty tab 82 [enE x] = some [.bool (decide (x.f = 6))] := by
 unfold enE
 refine s_trie_plant_2 0 _ _ _ _ _ _ ?_
 unfold trie_plant_2
 simp (disch := omega) only [gds]
theorem idx_fam (nb : Bool) (L : List Er) (hl : L.length ≤ 100000) : Cl ty tab 66 [.sl 49 nb (L.map enE), .fn 82 []] =
  some [.int .i64 (firstI (fun x => decide (x.f = 6)) L)] := by
 obtain ⟨k, hk⟩ := rounds
 refine s_slices_IndexFunc_66 k _ _ ?_
 unfold slices_IndexFunc_66
 have hlen : (L.map enE).length = L.length := by simp
 have := iter_ix (F := slices_IndexFunc_66.b0 (Cl ty tab) k (L.map enE)) L.length (fun i => [.int .i64 i])
  (fun i => some [.int .i64 (if cutI (fun x : Er => decide (x.f = 6)) (L.drop i) < (L.drop i).length then ((i + cutI (fun x : Er => decide (x.f = 6)) (L.drop i) : Nat) : Int) else -1)]) (fun i hi again ha => ?_) (fun again => ?_) k (by omega) 0 (by omega)
 · rw [List.drop_zero] at this
   simpa [firstI] using this
 · unfold slices_IndexFunc_66.b0
   rw [first_val hi]
   have g : (L.map enE).getD i .undef = enE L[i] := getD_map hi
   generalize L[i] = x at *
   have hb := fam6_fn x
   by_cases hbit : x.f = 6
   · rw [decide_eq_true hbit] at hb ⊢
     simp (disch := omega) only [gds, hlen, g, enc, hb]
   · rw [decide_eq_false hbit] at hb ⊢
     simp (disch := omega) only [gds, hlen, g, enc, hb, Int.natCast_add, Int.natCast_one] at ha ⊢
     exact ha
 · unfold slices_IndexFunc_66.b0
   rw [List.drop_length]
   simp (disch := omega) only [gds, hlen]
   simp [cutI]
theorem sorted_ok (nb : Bool) (xs : List Er) (hnb : nb = true → xs = []) (hl : xs.length ≤ 20000) : ∃ nb', Cl ty tab 80 [.sl 49 nb (xs.map enE), .fn 81 []] = some [.ov 49 nb' ((sortE xs).map enE)] := by
 have hlen : (xs.map enE).length = xs.length := by simp
 have hc : ∃ nb', Cl ty tab 100 [.sl 49 nb (xs.map enE)] = some [.ov 49 nb' (xs.map enE)] := by
  cases nb
  · refine ⟨false, ?_⟩
    refine s_slices_Clone_100 0 _ _ ?_
    unfold slices_Clone_100
    simp (disch := omega) only [gds, hlen, show (0 + xs.length) * 56 ≤ 140737488355328 by omega]
  · refine ⟨true, ?_⟩
    rw [hnb rfl]
    refine s_slices_Clone_100 0 _ _ ?_
    unfold slices_Clone_100
    simp (disch := omega) only [gds]
    rfl
 obtain ⟨nb', hc⟩ := hc
 refine ⟨nb', ?_⟩
 refine s_trie_sorted 0 _ _ ?_
 unfold trie_sorted
 have hs := sort_ok nb' xs (by omega)
 simp (disch := omega) only [gds, hc, hs]
 rfl
theorem cut_fam {L : List Er} (h : ∀ x, x ∈ L → x.vd) (hs : L.Pairwise fun a b => ltE a b = true) : L.take (cutI (fun x : Er => decide (x.f = 6)) L) = L.filter (fun x => decide (x.f = 4)) ∧ L.drop (cutI (fun x : Er => decide (x.f = 6)) L) = L.filter fun x => decide (x.f = 6) := by
 induction L with
 | nil => simp
 | cons a L ih =>
  obtain ⟨h1, h2⟩ := List.pairwise_cons.1 hs
  have va := h a (List.mem_cons_self ..)
  by_cases ha : a.f = 6
  · have hall : ∀ x, x ∈ L → x.f = 6 := fun x hx => by
     have vx := h x (List.mem_cons_of_mem _ hx)
     rcases (ltE_vd va vx).1 (h1 x hx) with g | g
     · rcases vx.fam with e | e <;> omega
     · omega
    have e0 : cutI (fun x : Er => decide (x.f = 6)) (a :: L) = 0 := by simp [cutI, ha]
    rw [e0]
    constructor
    · rw [List.take_zero]
      exact (filter_none fun x hx => by
       rcases List.mem_cons.1 hx with rfl | hx
       · simp [ha]
       · simp [hall x hx]).symm
    · rw [List.drop_zero]
      exact (List.filter_eq_self.2 fun x hx => by
       rcases List.mem_cons.1 hx with rfl | hx
       · simp [ha]
       · simp [hall x hx]).symm
  · have h4 : a.f = 4 := by rcases va.fam with e | e; exact e; exact absurd e ha
    obtain ⟨i1, i2⟩ := ih (fun x hx => h x (List.mem_cons_of_mem _ hx)) h2
    have e0 : cutI (fun x : Er => decide (x.f = 6)) (a :: L) = cutI (fun x : Er => decide (x.f = 6)) L + 1 := by simp [cutI, ha]
    rw [e0, List.take_succ_cons, List.drop_succ_cons, i1, i2, List.filter_cons, List.filter_cons, if_pos (by simp [h4]), if_neg (by simp [ha])]
    exact ⟨rfl, rfl⟩
theorem fam_map {f : Int} {L : List Er} (h : ∀ x, x ∈ L → x.vd) : (L.filter fun x => decide (x.f = f)).map enE = ((L.filter fun x => decide (x.f = f)).map Er.en).map (enD f) := by
 rw [List.map_map]
 refine List.map_congr_left fun x hx => ?_
 rw [List.mem_filter] at hx
 have e1 : x.f = f := by simpa using hx.2
 have := (h x hx.1).asEn
 rw [this, e1]
 rfl
noncomputable def grownD (f : Int) (xs : List Er) : D := .sl 69 (famE f xs).isEmpty ((grow (famE f xs)).map (ndD f))
theorem plant_ok (nb : Bool) (xs : List Er) (hnb : nb = true → xs = []) (hl : xs.length ≤ 20000) (h : ∀ x, x ∈ xs → x.vd) (hd : xs.Pairwise fun a b => a.px ≠ b.px) :
  Cl ty tab 46 [.sl 49 nb (xs.map enE)] = some [.agg [grownD 4 xs, grownD 6 xs]] := by
 obtain ⟨nb', hs⟩ := sorted_ok nb xs hnb hl
 refine s_trie_plant 0 _ _ ?_
 unfold trie_plant
 have h3 : ∀ x, x ∈ sortE xs → x.vd := fun x hx => h x ((sortE_perm xs).mem_iff.1 hx)
 have hcf := cut_fam h3 (sortE_lt h hd)
 have hsl : (sortE xs).length = xs.length := (sortE_perm xs).length_eq
 have hi := idx_fam nb' (sortE xs) (by omega)
 have hcle := cutI_le (fun x : Er => decide (x.f = 6)) (sortE xs)
 unfold firstI at hi
 have g4 := famE_ok (f := 4) h hd
 have g6 := famE_ok (f := 6) h hd
 have o4 := grow_ok (famE 4 xs) g4.1 g4.2.1 g4.2.2.1 (by omega) nb'
 have o6 := grow_ok (famE 6 xs) g6.1 g6.2.1 g6.2.2.1 (by omega) nb'
 have m4 := fam_map (f := 4) h3
 have m6 := fam_map (f := 6) h3
 rw [← hcf.1] at m4
 rw [← hcf.2] at m6
 have f4 : famE 4 xs = ((sortE xs).take (cutI (fun x : Er => decide (x.f = 6)) (sortE xs))).map Er.en := by unfold famE; rw [hcf.1]
 have f6 : famE 6 xs = ((sortE xs).drop (cutI (fun x : Er => decide (x.f = 6)) (sortE xs))).map Er.en := by unfold famE; rw [hcf.2]
 rw [← f4] at m4
 rw [← f6] at m6
 rw [← m4] at o4
 rw [← m6] at o6
 unfold grownD
 generalize hc : cutI (fun x : Er => decide (x.f = 6)) (sortE xs) = c at *
 have hlen : ((sortE xs).map enE).length = (sortE xs).length := by simp
 have t4 : (((sortE xs).map enE).drop 0).take (c - 0) = ((sortE xs).take c).map enE := by rw [List.drop_zero, Nat.sub_zero, List.map_take]
 have t6 : (((sortE xs).map enE).drop c).take ((sortE xs).length - c) = ((sortE xs).drop c).map enE := by rw [List.take_of_length_le (by simp), List.map_drop]
 by_cases hcl : c < (sortE xs).length
 · rw [if_pos hcl] at hi
   simp (disch := omega) only [gds, hs, hi, hlen, Int.toNat_zero, t4, t6, o4, o6]
 · rw [if_neg hcl] at hi
   have hce : c = (sortE xs).length := by omega
   rw [hce] at t4 t6 o4 o6
   simp (disch := omega) only [gds, hs, hi, hlen, Int.toNat_zero, Int.reduceNeg, Int.reduceLT, t4, t6, o4, o6]
end Go.Proofs.Ytkfnkiejikhglaa.Own
namespace Go.Proofs.Ytkfnkiejikhglaa.Own
open Go Go.Proofs.Ytkfnkiejikhglaa.GD Go.Proofs.Ytkfnkiejikhglaa.GD.Trie Go.Sort
def Nr.core (x : Nr) : Px × List Int × Int × Int := (⟨x.f, x.h, x.l, x.n⟩, x.vs, x.c0, x.c1)
theorem vs_get {v : List Int} {i : Nat} (h : i < v.length) : (vsD v).getD i .undef = .int .i64 v[i] := getD_map h
theorem drop_eq {α : Type} [DecidableEq α] {a b : List α} {i : Nat} (ha : i < a.length) (hb : i < b.length) : decide (a.drop i = b.drop i) = (decide (a[i] = b[i]) && decide (a.drop (i + 1) = b.drop (i + 1))) := by
 rw [← Bool.decide_and]
 exact decide_eq_decide.2 (by rw [List.drop_eq_getElem_cons ha, List.drop_eq_getElem_cons hb, List.cons.injEq])
theorem equal_ok (n1 n2 : Bool) (a b : List Int) (hl : a.length ≤ 9223372036854775807) : Cl ty tab 84 [.sl 3 n1 (vsD a), .sl 3 n2 (vsD b)] = some [.bool (decide (a = b))] := by
 obtain ⟨k, hk⟩ := rounds
 refine s_slices_Equal k _ _ _ _ ?_
 unfold slices_Equal
 have h1 : (vsD a).length = a.length := by simp
 have h2 : (vsD b).length = b.length := by simp
 by_cases he : a.length = b.length
 · have := iter_ix (F := slices_Equal.b0 (Cl ty tab) k (vsD a) (vsD b)) a.length (fun i => [.int .i64 i]) (fun i => some [.bool (decide (a.drop i = b.drop i))]) (fun i hi again ha => ?_) (fun again => ?_) k (by omega) 0 (by omega)
   · rw [List.drop_zero, List.drop_zero] at this
     simp (disch := omega) only [gds, h1, h2, he, ne_eq, not_true_eq_false]
     simpa using this
   · unfold slices_Equal.b0
     rw [drop_eq hi (by omega)]
     have g1 := vs_get hi
     have g2 := vs_get (show i < b.length by omega)
     by_cases hx : a[i] = b[i]
     · have hlt : (i : Int) < ((b.length : Nat) : Int) := by omega
       simp (disch := omega) only [gds, h1, h2, g1, g2, hx, ne_eq, not_true_eq_false, Int.natCast_add, Int.natCast_one] at ha ⊢
       exact ha
     · simp (disch := omega) only [gds, h1, h2, g1, g2, hx, ne_eq, not_false_eq_true]
   · unfold slices_Equal.b0
     have : b.drop a.length = [] := List.drop_eq_nil_of_le (by omega)
     rw [List.drop_length, this]
     simp (disch := omega) only [gds, h1, h2]
 · have hne : ¬ a = b := fun h => he (by rw [h])
   have : ¬ ((a.length : Nat) : Int) = ((b.length : Nat) : Int) := by omega
   simp (disch := omega) only [gds, h1, h2, this, hne, ne_eq, not_false_eq_true]
theorem same_ok (x y : Nr) (hl : x.vs.length ≤ 9223372036854775807) : Cl ty tab 48 [ndE x, ndE y] = some [.bool (decide (x.core = y.core))] := by
 have := s_trie_sameNode 0 (ndE x) (ndE y) (r := [.bool (decide (x.core = y.core))]) ?_
 · exact this
 unfold trie_sameNode Nr.core
 have he := equal_ok x.nb y.nb x.vs y.vs hl
 by_cases h1 : x.f = y.f
 · by_cases h2 : x.h = y.h
   · by_cases h3 : x.l = y.l
     · by_cases h4 : x.n = y.n
       · by_cases h5 : x.c0 = y.c0
         · by_cases h6 : x.c1 = y.c1
           · simp (disch := omega) only [gds, ndc, h1, h2, h3, h4, h5, h6, he]
             simp
           · simp (disch := omega) only [gds, ndc, h1, h2, h3, h4, h5, h6, he]
             simp [h6]
         · simp (disch := omega) only [gds, ndc, h1, h2, h3, h4, h5, he]
           simp [h5]
       · simp (disch := omega) only [gds, ndc, h1, h2, h3, h4, he]
         simp [h4]
     · have : ¬ (x.l : Int) = y.l := by omega
       simp (disch := omega) only [gds, ndc, h1, h2, this, he]
       simp [h3]
   · have : ¬ (x.h : Int) = y.h := by omega
     simp (disch := omega) only [gds, ndc, h1, this, he]
     simp [h2]
 · simp (disch := omega) only [gds, ndc, h1, he]
   simp [h1]
theorem nd_eta (x : Nr) : D.agg (etaCells ks0 (ndE x) 0) = ndE x := rfl
theorem eqf_ok (n1 n2 : Bool) (a b : List Nr) (hl : a.length ≤ 9223372036854775807) (hv : ∀ x, x ∈ a → x.vs.length ≤ 5000) : Cl ty tab 47 [.sl 69 n1 (a.map ndE), .sl 69 n2 (b.map ndE), .fn 48 []] = some [.bool (decide (a.map Nr.core = b.map Nr.core))] := by
 obtain ⟨k, hk⟩ := rounds
 refine s_slices_EqualFunc k _ _ _ _ ?_
 unfold slices_EqualFunc
 have h1 : (a.map ndE).length = a.length := by simp
 have h2 : (b.map ndE).length = b.length := by simp
 by_cases he : a.length = b.length
 · have := iter_ix (F := slices_EqualFunc.b0 (Cl ty tab) k (a.map ndE) (b.map ndE)) a.length (fun i => [.int .i64 i]) (fun i => some [.bool (decide ((a.map Nr.core).drop i = (b.map Nr.core).drop i))]) (fun i hi again ha => ?_) (fun again => ?_) k (by omega) 0 (by omega)
   · rw [List.drop_zero, List.drop_zero] at this
     simp (disch := omega) only [gds, h1, h2, he, ne_eq, not_true_eq_false]
     simpa using this
   · unfold slices_EqualFunc.b0
     rw [drop_eq (by simpa using hi) (by simpa using (by omega : i < b.length))]
     rw [List.getElem_map, List.getElem_map]
     have hvx := hv a[i] (List.getElem_mem hi)
     have g1 : (a.map ndE).getD i .undef = ndE a[i] := getD_map hi
     have g2 : (b.map ndE).getD i .undef = ndE b[i] := getD_map (by omega)
     have hs := same_ok a[i] b[i] (by omega)
     have hlt : (i : Int) < ((b.length : Nat) : Int) := by omega
     have hlt2 : (i : Int) < ((a.length : Nat) : Int) := by omega
     generalize a[i] = x at *
     generalize b[i] = y at *
     by_cases hx : x.core = y.core
     · rw [decide_eq_true hx] at hs ⊢
       simp (disch := omega) only [gds, h1, h2, g1, g2, nd_eta, hs, Int.natCast_add, Int.natCast_one] at ha ⊢
       exact ha
     · rw [decide_eq_false hx] at hs ⊢
       simp (disch := omega) only [gds, h1, h2, g1, g2, nd_eta, hs]
   · unfold slices_EqualFunc.b0
     have e1 : (a.map Nr.core).drop a.length = [] := List.drop_eq_nil_of_le (by simp)
     have e2 : (b.map Nr.core).drop a.length = [] := List.drop_eq_nil_of_le (by simp; omega)
     rw [e1, e2]
     simp (disch := omega) only [gds, h1, h2]
 · have hne : ¬ a.map Nr.core = b.map Nr.core := fun h => he (by have := congrArg List.length h; simpa using this)
   have : ¬ ((a.length : Nat) : Int) = ((b.length : Nat) : Int) := by omega
   simp (disch := omega) only [gds, h1, h2, this, hne, ne_eq, not_false_eq_true]
noncomputable def grownN (f : Int) (xs : List Er) : List Nr := (grow (famE f xs)).map (nrOf f)
theorem grownD_eq (f : Int) (xs : List Er) : grownD f xs = .sl 69 (famE f xs).isEmpty ((grownN f xs).map ndE) := by
 unfold grownD grownN ndD
 rw [List.map_map]
 rfl
structure Fine (A B : List Nr) : Prop where
 a : A.length ≤ 4000
 b : B.length ≤ 4000
 c : checkE [] (heldF (A ++ B)) = 0
 ga : A.map Nr.core = (grownN 4 (heldF (A ++ B))).map Nr.core
 gb : B.map Nr.core = (grownN 6 (heldF (A ++ B))).map Nr.core
open Classical in
noncomputable def checkT (A B : List Nr) : Int := if 4000 < A.length ∨ 4000 < B.length then 4 else if Fine A B then 0 else 8
theorem valsOk_ne {v : List Int} (h : valsOk v = true) : v ≠ [] ∧ v.length ≤ 4000 := by
 unfold valsOk at h
 simp only [zq3, Bool.not_eq_true', List.isEmpty_eq_false_iff, decide_eq_true_eq] at h
 exact ⟨h.1, h.2.1⟩
theorem vd_of {xs : List Er} (hg : ∀ x, x ∈ xs → x.good) (h : checkE [] xs = 0) : (∀ x, x ∈ xs → x.vd) ∧ xs.Pairwise fun a b => a.px ≠ b.px := by
 obtain ⟨h1, h2⟩ := checkE_zero h
 refine ⟨fun x hx => ?_, h2⟩
 obtain ⟨c1, c2, _⟩ := h1 x hx
 have hv := valsOk_ne c2
 refine ⟨(hg x hx).r, c1, ?_, hv.1, by omega⟩
 cases hn : x.nb
 · rfl
 · exact absurd ((hg x hx).nb hn) hv.1
theorem held_good {L : List Nr} (h : ∀ x, x ∈ L → x.good) : ∀ x, x ∈ heldF L → x.good := by
 intro x hx
 obtain ⟨y, hy, rfl⟩ := List.mem_map.1 hx
 rw [List.mem_filter] at hy
 exact ⟨(h y hy.1).r, fun h => by cases h⟩
theorem tcheck_ok (n1 n2 : Bool) (A B : List Nr) (hA : ∀ x, x ∈ A → x.good ∧ x.vs.length ≤ 5000) (hB : ∀ x, x ∈ B → x.good ∧ x.vs.length ≤ 5000) (lA : A.length ≤ 5000) (lB : B.length ≤ 5000) :
  Cl ty tab 18 [.agg [.sl 69 n1 (A.map ndE), .sl 69 n2 (B.map ndE)]] = some [.int .i64 (checkT A B)] := by
 refine s_trie_Check 0 _ _ _ _ ?_
 unfold trie_Check checkT
 have h1 : (A.map ndE).length = A.length := by simp
 have h2 : (B.map ndE).length = B.length := by simp
 by_cases l1 : 4000 < A.length
 · have : (4000 : Int) < ((A.length : Nat) : Int) := by omega
   rw [if_pos (.inl l1)]
   simp (disch := omega) only [gds, h1, this]
 by_cases l2 : 4000 < B.length
 · have e1 : ¬ (4000 : Int) < ((A.length : Nat) : Int) := by omega
   have e2 : (4000 : Int) < ((B.length : Nat) : Int) := by omega
   rw [if_pos (.inr l2)]
   simp (disch := omega) only [gds, h1, h2, e1, e2]
 rw [if_neg (by omega)]
 have e1 : ¬ (4000 : Int) < ((A.length : Nat) : Int) := by omega
 have e2 : ¬ (4000 : Int) < ((B.length : Nat) : Int) := by omega
 have hh := held_ok n1 n2 A B hA hB lA lB
 have hgd := held_good (L := A ++ B) (fun x hx => (List.mem_append.1 hx).elim (fun h => (hA x h).1) fun h => (hB x h).1)
 have hhl := heldF_len (A ++ B)
 rw [List.length_append] at hhl
 have hc := check_ok (heldF (A ++ B)).isEmpty (heldF (A ++ B)) hgd (by omega)
 have hfine : Fine A B → checkE [] (heldF (A ++ B)) = 0 := fun h => h.c
 by_cases hz : checkE [] (heldF (A ++ B)) = 0
 · obtain ⟨v1, v2⟩ := vd_of hgd hz
   have hp := plant_ok (heldF (A ++ B)).isEmpty (heldF (A ++ B)) (fun h => by simpa using h) (by omega) v1 v2
   rw [grownD_eq, grownD_eq] at hp
   have q1 := eqf_ok n1 (famE 4 (heldF (A ++ B))).isEmpty A (grownN 4 (heldF (A ++ B))) (by omega) (fun x hx => (hA x hx).2)
   have q2 := eqf_ok n2 (famE 6 (heldF (A ++ B))).isEmpty B (grownN 6 (heldF (A ++ B))) (by omega) (fun x hx => (hB x hx).2)
   rw [hz] at hc
   by_cases c1 : A.map Nr.core = (grownN 4 (heldF (A ++ B))).map Nr.core
   · rw [decide_eq_true c1] at q1
     by_cases c2 : B.map Nr.core = (grownN 6 (heldF (A ++ B))).map Nr.core
     · rw [decide_eq_true c2] at q2
       rw [if_pos ⟨by omega, by omega, hz, c1, c2⟩]
       simp (disch := omega) only [gds, h1, h2, e1, e2, hh, hc, hp, q1, q2, ne_eq, not_true_eq_false]
     · rw [decide_eq_false c2] at q2
       rw [if_neg fun h => c2 h.gb]
       simp (disch := omega) only [gds, h1, h2, e1, e2, hh, hc, hp, q1, q2, ne_eq, not_true_eq_false]
   · rw [decide_eq_false c1] at q1
     rw [if_neg fun h => c1 h.ga]
     simp (disch := omega) only [gds, h1, h2, e1, e2, hh, hc, hp, q1, ne_eq, not_true_eq_false]
 · rw [if_neg fun h => hz h.c]
   simp (disch := omega) only [gds, h1, h2, e1, e2, hh, hc, hz, ne_eq, not_false_eq_true]
theorem entries_ok (n1 n2 : Bool) (A B : List Nr) (hA : ∀ x, x ∈ A → x.good ∧ x.vs.length ≤ 5000) (hB : ∀ x, x ∈ B → x.good ∧ x.vs.length ≤ 5000) (lA : A.length ≤ 5000) (lB : B.length ≤ 5000) :
  Cl ty tab 14 [.agg [.sl 69 n1 (A.map ndE), .sl 69 n2 (B.map ndE)]] = some (if checkT A B ≠ 0 then [.ov 49 true [], .int .i64 (checkT A B)] else [.ov 49 (heldF (A ++ B)).isEmpty ((heldF (A ++ B)).map enE), .int .i64 0]) := by
 refine s_trie_Entries 0 _ _ _ _ ?_
 unfold trie_Entries
 have hc := tcheck_ok n1 n2 A B hA hB lA lB
 have hh := held_ok n1 n2 A B hA hB lA lB
 by_cases h : checkT A B = 0
 · rw [if_neg (by simp [h])]
   rw [h] at hc
   simp (disch := omega) only [gds, hc, hh, ne_eq, not_true_eq_false]
 · rw [if_pos h]
   simp (disch := omega) only [gds, hc, h, ne_eq, not_false_eq_true]
structure GoodT (A : List Nr) : Prop where
 l : A.length ≤ 60 ∨ (4000 < A.length ∧ A.length ≤ 4010)
 v : ∀ x, x ∈ A → x.vs.length ≤ 100
theorem greatN_ok (nb : Bool) (A : List Nr) (hl : A.length ≤ 9223372036854775807) : ∃ b, Cl ty tab 35 [.sl 69 nb (A.map ndE)] = some [.bool b] ∧ (b = false → GoodT A) := by
 obtain ⟨k, hk⟩ := rounds
 have h1 : (A.map ndE).length = A.length := by simp
 have hb : A.any (fun x => decide (100 < x.vs.length)) = false → ∀ x, x ∈ A → x.vs.length ≤ 100 := fun h x hx => by
  rw [List.any_eq_false] at h
  have := h x hx
  simpa using this
 have lp : ∀ F : List D → (List D → Option (List D)) → Option (List D), (∀ vs again, F vs again = gatepathref39_greatNodes.b0 (Cl ty tab) k (A.map ndE) vs again) → iter k F [.int .i64 0] = some [.bool (A.any fun x => decide (100 < x.vs.length))] := fun F hF => by
  refine iter_list (F := F) A (fun i => [.int .i64 i]) (fun l => some [.bool (l.any fun x => decide (100 < x.vs.length))]) (fun i hi again ha => ?_) (fun again => ?_) k (by omega)
  · rw [hF]
    unfold gatepathref39_greatNodes.b0
    have g : (A.map ndE).getD i .undef = ndE A[i] := getD_map hi
    rw [List.any_cons]
    generalize A[i] = x at *
    by_cases hx : 100 < x.vs.length
    · have : (100 : Int) < ((x.vs.length : Nat) : Int) := by omega
      simp (disch := omega) only [gds, h1, g, ndc, hx, this]
    · have : ¬ (100 : Int) < ((x.vs.length : Nat) : Int) := by omega
      simp (disch := omega) only [gds, h1, g, ndc, hx, this, Int.natCast_add, Int.natCast_one] at ha ⊢
      exact ha
  · rw [hF]
    unfold gatepathref39_greatNodes.b0
    simp (disch := omega) only [gds, h1, List.any_nil]
 by_cases a1 : 60 < A.length
 · have b1 : (60 : Int) < ((A.length : Nat) : Int) := by omega
   by_cases a2 : A.length ≤ 4000
   · refine ⟨true, s_gatepathref39_greatNodes k _ _ ?_, by simp⟩
     unfold gatepathref39_greatNodes
     have b2 : ((A.length : Nat) : Int) ≤ 4000 := by omega
     simp (disch := omega) only [gds, h1, b1, b2]
   · have b2 : ¬ ((A.length : Nat) : Int) ≤ 4000 := by omega
     by_cases a3 : 4010 < A.length
     · refine ⟨true, s_gatepathref39_greatNodes k _ _ ?_, by simp⟩
       unfold gatepathref39_greatNodes
       have b3 : (4010 : Int) < ((A.length : Nat) : Int) := by omega
       simp (disch := omega) only [gds, h1, b1, b2, b3]
     · refine ⟨_, s_gatepathref39_greatNodes k _ _ ?_, fun h => ⟨.inr ⟨by omega, by omega⟩, hb h⟩⟩
       unfold gatepathref39_greatNodes
       have b3 : ¬ (4010 : Int) < ((A.length : Nat) : Int) := by omega
       simp (disch := omega) only [gds, h1, b1, b2, b3]
       exact lp _ fun _ _ => rfl
 · have b1 : ¬ (60 : Int) < ((A.length : Nat) : Int) := by omega
   have b3 : ¬ (4010 : Int) < ((A.length : Nat) : Int) := by omega
   refine ⟨_, s_gatepathref39_greatNodes k _ _ ?_, fun h => ⟨.inl (by omega), hb h⟩⟩
   unfold gatepathref39_greatNodes
   simp (disch := omega) only [gds, h1, b1, b3]
   exact lp _ fun _ _ => rfl
theorem great_ok (n1 n2 : Bool) (A B : List Nr) (l1 : A.length ≤ 9223372036854775807) (l2 : B.length ≤ 9223372036854775807) : ∃ b, Cl ty tab 9 [.agg [.sl 69 n1 (A.map ndE), .sl 69 n2 (B.map ndE)]] = some [.bool b] ∧ (b = false → GoodT A ∧ GoodT B) := by
 obtain ⟨x, hx, gx⟩ := greatN_ok n1 A l1
 obtain ⟨y, hy, gy⟩ := greatN_ok n2 B l2
 refine ⟨x || y, s_gatepathref39_Great 0 _ _ _ _ ?_, fun h => ?_⟩
 · unfold gatepathref39_Great
   cases x
   · simp (disch := omega) only [gds, hx, hy]
   · simp (disch := omega) only [gds, hx]
 · simp only [Bool.or_eq_false_iff] at h
   exact ⟨gx h.1, gy h.2⟩
end Go.Proofs.Ytkfnkiejikhglaa.Own
namespace Go.Proofs.Ytkfnkiejikhglaa.Own
open Go Go.Proofs.Ytkfnkiejikhglaa.GD Go.Proofs.Ytkfnkiejikhglaa.GD.Trie Go.Sort
structure NdOf (f : Int) (x : Nr) (g : Nd) : Prop where
 fm : x.f = (pfOf f g.k).f
 h : x.h = (pfOf f g.k).h
 l : x.l = (pfOf f g.k).l
 n : x.n = ((pfOf f g.k).n : Nat)
 vs : x.vs = g.v
 c0 : x.c0 = g.c0
 c1 : x.c1 = g.c1
theorem ndOf {f : Int} {A : List Nr} {G : List Nd} (h : A.map Nr.core = (G.map (nrOf f)).map Nr.core) : A.length = G.length ∧ ∀ (i : Nat) (x : Nr) (g : Nd), A[i]? = some x → G[i]? = some g → NdOf f x g := by
 refine ⟨by have := congrArg List.length h; simpa using this, fun i x g hx hg => ?_⟩
 have h1 : (A.map Nr.core)[i]? = some x.core := by rw [List.getElem?_map, hx]; rfl
 have h2 : ((G.map (nrOf f)).map Nr.core)[i]? = some (nrOf f g).core := by rw [List.getElem?_map, List.getElem?_map, hg]; rfl
 rw [h, h2] at h1
 have := Option.some.inj h1
 simp only [Nr.core, nrOf, Prod.mk.injEq, Px.mk.injEq] at this
 obtain ⟨⟨a1, a2, a3, a4⟩, a5, a6, a7⟩ := this
 exact ⟨a1.symm, a2.symm, a3.symm, a4.symm, a5.symm, a6.symm, a7.symm⟩
theorem NdOf.px {f : Int} {x : Nr} {g : Nd} (h : NdOf f x g) : P4 x.f x.h x.l x.n = (pfOf f g.k).d := by rw [h.fm, h.h, h.l, h.n]
theorem okb_grow {f : Int} {L : List En} (hs : Srt L) (hk : ∀ e, e ∈ L → Okb f e.k) : ∀ (n base : Nat) (l : List En), Srt l → (∀ e, e ∈ l → Okb f e.k) → l.length ≤ n → ∀ g, g ∈ growF n base l → Okb f g.k
 | n, base, [], _, _, _, g, hg => by rw [growF_nil] at hg; cases hg
 | 0, base, e :: r, _, _, h, g, hg => by simp at h
 | n + 1, base, e :: r, hs', hk', h, g, hg => by
  have sp := split_of hs'
  simp only [List.length_cons] at h
  have hr : ∀ x, x ∈ restF e r → Okb f x.k := fun x hx => hk' x (rest_mem hx)
  simp only [growF] at hg
  rcases List.mem_cons.1 hg with rfl | hg
  · exact (hk' e (List.mem_cons_self ..)).pre (lcp_pre1 _ _)
  rcases List.mem_append.1 hg with hg | hg
  · exact okb_grow hs hk n _ _ sp.zs (fun x hx => hr x (by rw [← sp.app]; exact List.mem_append_left _ hx)) (by have := sp.zl; omega) g hg
  · exact okb_grow hs hk n _ _ sp.os (fun x hx => hr x (by rw [← sp.app]; exact List.mem_append_right _ hx)) (by have := sp.ol; omega) g hg
def ChildOk (f : Int) (A : List Nr) (i : Nat) (x : Nr) (b : Bool) : Prop := (if b then x.c1 else x.c0) = -1 ∨ ∃ (j : Nat) (y : Nr), (if b then x.c1 else x.c0) = (j : Int) ∧ i < j ∧ A[j]? = some y ∧
 Cl ty tab 29 [P4 x.f x.h x.l x.n, P4 y.f y.h y.l y.n] = some [.bool true] ∧ Cl ty tab 60 [.int .u8 f, A64 y.h y.l, .int .i64 x.n] = some [.int .i64 (bi b), .int .i64 0]
theorem child_ok {f : Int} {A : List Nr} {G : List Nd} (hA : A.map Nr.core = (G.map (nrOf f)).map Nr.core) (hG : ∀ g, g ∈ G → Okb f g.k) (hN : ∀ i, NodeOk G 0 i) {i : Nat} {x : Nr} (hx : A[i]? = some x) (b : Bool) : ChildOk f A i x b := by
 obtain ⟨hl, ho⟩ := ndOf hA
 have hi : i < A.length := (zq6.1 hx).1
 have hg : G[i]? = some (G[i]'(by omega)) := zq4 _
 generalize (G[i]'(by omega)) = g at hg
 have hxg := ho i x g hx hg
 have hgm : g ∈ G := List.mem_of_getElem? hg
 have hc : (if b then x.c1 else x.c0) = Trie.child g b := by unfold Trie.child; rw [hxg.c0, hxg.c1]
 unfold ChildOk
 rw [hc]
 rcases (hN i g hg).2 b with h | ⟨j, y, h1, h2, h3, h4⟩
 · exact .inl h
 · right
   have hj : j < A.length := by have := (zq6.1 h3).1; omega
   have hz : A[j]? = some (A[j]'hj) := zq4 _
   generalize (A[j]'hj) = z at hz
   have hzy := ho j z y hz h3
   have hym : y ∈ G := List.mem_of_getElem? h3
   have sx := (hG g hgm).sp
   have sy := (hG y hym).sp
   refine ⟨j, z, by rw [h1]; simp, h2, hz, ?_, ?_⟩
   · rw [hxg.px, hzy.px, covers_ok sx.1 sy.1, sx.2.1, sy.2.1, sx.2.2, sy.2.2, pre_iff.2 ((List.prefix_append ..).trans h4)]
     simp
   · have hbit := pre_bit h4
     have hlen := h4.length_le
     rw [List.length_append, List.length_singleton, ← sy.2.2, ← sx.2.2, (pfOf f y.k).len, (pfOf f g.k).len] at hlen
     have hyw := sy.1.all.2.2.1
     have hb := nbit_ok sy.1.r sy.1.all.2.1 sy.1.all.1 (pfOf f g.k).n
     rw [if_pos (by omega)] at hb
     have e : bitK (pfOf f y.k).h (pfOf f y.k).l (widthF (pfOf f y.k).f - 1 - (pfOf f g.k).n) = b := by
      have := (pfOf f y.k).bitAt (i := (pfOf f g.k).n) (by omega)
      unfold Pf.b at this
      rw [← this, sy.2.2, ← (pfOf f g.k).len, sx.2.2]
      exact hbit
     rw [e, sy.2.1] at hb
     rw [hzy.h, hzy.l, hxg.n]
     exact hb
theorem shaped_in {f : Int} {A : List Nr} (k : Nat) (hk : 2 < k) (i : Nat) (x : Nr) (hx : A[i]? = some x) (hi : i < 100000) (hl : A.length ≤ 100000) (h0 : ChildOk f A i x false) (h1 : ChildOk f A i x true) (n : Nat) (again2 : List D → Option (List D)) (F : List D → (List D → Option (List D)) → Option (List D))
  (hF : ∀ vs again, F vs again = gatepathlaw39_shaped.b1 (Cl ty tab) k (A.map ndE) f again2 [.int .i64 n, .int .i64 i] vs again ∨ F vs again = gatepathlaw39_shaped.b1_1 (Cl ty tab) k (A.map ndE) f again2 [.int .i64 n, .int .i64 i] vs again) (m : Nat)
  (hm : ∀ again, F [.int .i64 2] again = again2 [.int .i64 m, .int .i64 ((i : Int) + 1)]) : iter k F [.int .i64 0] = again2 [.int .i64 m, .int .i64 ((i : Int) + 1)] := by
 have hlen : (A.map ndE).length = A.length := by simp
 have hiA : i < A.length := (zq6.1 hx).1
 have gx : (A.map ndE).getD i .undef = ndE x := by
  rw [getD_map hiA]
  have := (zq6.1 hx).2
  rw [this]
 have step : ∀ (b : Bool) again, ChildOk f A i x b → F [.int .i64 (bi b)] again = again [.int .i64 (bi b + 1)] := by
  intro b again hc
  have hcell : (ndE x).cell (5 + (bi b).toNat) = .int .i64 (if b then x.c1 else x.c0) := by cases b <;> rfl
  have hb0 : 0 ≤ bi b ∧ bi b < 2 := by cases b <;> simp [bi]
  have hb2 : bi b < ((2 : Nat) : Int) := hb0.2
  have hw : IntKind.i64.wrap (bi b + 1) = bi b + 1 := by cases b <;> rfl
  have key : gatepathlaw39_shaped.b1 (Cl ty tab) k (A.map ndE) f again2 [.int .i64 n, .int .i64 i] [.int .i64 (bi b)] again = again [.int .i64 (bi b + 1)] := by
   unfold gatepathlaw39_shaped.b1
   rcases hc with hc | ⟨j, y, c1, c2, c3, c4, c5⟩
   · rw [hc] at hcell
     simp (disch := omega) only [gds, hlen, gx, hcell, hb0, hb2, and_self]
   · have hjA : j < A.length := (zq6.1 c3).1
     have gy : (A.map ndE).getD j .undef = ndE y := by
      rw [getD_map hjA]
      have := (zq6.1 c3).2
      rw [this]
     rw [c1] at hcell
     simp (disch := omega) only [gds, hlen, gx, hcell, hb0, hb2, and_self, gy, ndc, c4, c5, ne_eq, not_true_eq_false]
  have key2 : gatepathlaw39_shaped.b1_1 (Cl ty tab) k (A.map ndE) f again2 [.int .i64 n, .int .i64 i] [.int .i64 (bi b)] again = gatepathlaw39_shaped.b1 (Cl ty tab) k (A.map ndE) f again2 [.int .i64 n, .int .i64 i] [.int .i64 (bi b)] again := by
   unfold gatepathlaw39_shaped.b1 gatepathlaw39_shaped.b1_1
   have : (bi b) < 2 := hb0.2
   simp (disch := omega) only [gds, this]
  rcases hF [.int .i64 (bi b)] again with h | h
  · rw [h, key]
  · rw [h, key2, key]
 obtain ⟨k, rfl⟩ : ∃ j, k = j + 3 := ⟨k - 3, by omega⟩
 show F [.int .i64 0] (iter (k + 2) F) = _
 have s0 := step false (iter (k + 2) F) h0
 have s1 := step true (iter (k + 1) F) h1
 simp only [bi, Bool.false_eq_true, if_false, if_true] at s0 s1
 rw [s0]
 show F [.int .i64 (0 + 1)] (iter (k + 1) F) = _
 rw [show (0 : Int) + 1 = 1 from rfl, s1]
 show F [.int .i64 (1 + 1)] (iter k F) = _
 rw [show (1 : Int) + 1 = 2 from rfl]
 exact hm _
theorem own_len (G : List Nd) (A : List Nr) {f : Int} (h : A.map Nr.core = (G.map (nrOf f)).map Nr.core) : (own G).length = (A.filter fun x => !x.vs.isEmpty).length := by
 unfold own
 rw [List.length_map]
 have e : G.map (fun g => g.v) = A.map fun x => x.vs := by
  have h1 : (A.map Nr.core).map (fun c => c.2.1) = A.map fun x => x.vs := by rw [List.map_map]; rfl
  rw [← h1, h, List.map_map, List.map_map]
  rfl
 have c1 : ∀ l : List Nd, (l.filter fun x => !x.v.isEmpty).length = ((l.map fun g => g.v).filter fun v => !v.isEmpty).length := fun l => by
  rw [List.filter_map, List.length_map]; rfl
 have c2 : ∀ l : List Nr, (l.filter fun x => !x.vs.isEmpty).length = ((l.map fun g => g.vs).filter fun v => !v.isEmpty).length := fun l => by
  rw [List.filter_map, List.length_map]; rfl
 rw [c1, c2, e]
theorem shaped_ok {f : Int} (nb : Bool) (A : List Nr) (L : List En) (hs : Srt L) (hk : ∀ e, e ∈ L → Okb f e.k) (hv : ∀ e, e ∈ L → e.v ≠ []) (hl : A.length ≤ 5000) (hA : A.map Nr.core = ((grow L).map (nrOf f)).map Nr.core) : Cl ty tab 27 [.sl 69 nb (A.map ndE), .int .u8 f] = some [.bool true] := by
 obtain ⟨k, hkk⟩ := rounds
 refine s_gatepathlaw39_shaped k _ _ _ ?_
 unfold gatepathlaw39_shaped
 have hlen : (A.map ndE).length = A.length := by simp
 have hN := Trie.grow_ok L.length 0 L hs (Nat.le_refl _) hv
 have hG := okb_grow hs hk L.length 0 L hs hk (Nat.le_refl _)
 obtain ⟨hlG, ho⟩ := ndOf hA
 have hown := own_len (grow L) A hA
 rw [show own (grow L) = L from own_grow L.length 0 L hs (Nat.le_refl _) hv] at hown
 have := iter_ix (F := gatepathlaw39_shaped.b0 (Cl ty tab) k (A.map ndE) f) A.length (fun i => [.int .i64 (((A.take i).filter fun x => !x.vs.isEmpty).length : Nat), .int .i64 i]) (fun _ => some [.bool true]) (fun i hi again ha => ?_) (fun again => ?_) k (by omega) 0 (by omega)
 · exact this
 · unfold gatepathlaw39_shaped.b0
   have hx : A[i]? = some A[i] := zq4 _
   have g : (A.map ndE).getD i .undef = ndE A[i] := getD_map hi
   rw [List.take_add_one, hx, Option.toList_some, List.filter_append, List.length_append] at ha
   have hcnt : ((A.take i).filter fun x => !x.vs.isEmpty).length ≤ i := by
    have := List.length_filter_le (fun x : Nr => !x.vs.isEmpty) (A.take i)
    rw [List.length_take] at this; omega
   generalize ((A.take i).filter fun x => !x.vs.isEmpty).length = c at *
   have hg : (grow L)[i]? = some ((grow L)[i]'(by omega)) := zq4 _
   generalize ((grow L)[i]'(by omega)) = y at hg
   have hxy := ho i A[i] y hx hg
   have hfam : A[i].f = f := by rw [hxy.fm]; exact (hG y (List.mem_of_getElem? hg)).sp.2.1
   have k0 := child_ok hA hG hN hx false
   have k1 := child_ok hA hG hN hx true
   have hno := (hN i y hg).1
   generalize A[i] = x at *
   have e2 : ¬ ((2 : Int) < 2) := by omega
   cases hvx : x.vs with
   | nil =>
    have hc := hno (by rw [← hxy.vs, hvx])
    have e1 : ¬ x.c0 < 0 := by rw [hxy.c0]; omega
    have e3 : ¬ x.c1 < 0 := by rw [hxy.c1]; omega
    have hin := shaped_in k (by omega) i x hx (by omega) (by omega) k0 k1 c again (gatepathlaw39_shaped.b1_1 (Cl ty tab) k (A.map ndE) f again [.int .i64 c, .int .i64 i]) (fun vs ag => .inr rfl) c (fun ag => by
     unfold gatepathlaw39_shaped.b1_1
     simp (disch := omega) only [gds, e2])
    simp only [hvx, List.filter_cons, List.filter_nil, List.isEmpty_nil, Bool.not_true, Bool.false_eq_true, if_false, List.length_nil, Nat.add_zero] at ha
    simp (disch := omega) only [gds, hlen, g, ndc, hvx, vsD, List.map_nil, Int.natCast_zero, Int.lt_irrefl, e1, e3, hfam, ne_eq, not_true_eq_false]
    rw [hin]
    rw [Int.natCast_add, Int.natCast_one] at ha
    exact ha
   | cons v vs =>
    have e0 : (0 : Int) < (((v :: vs).length : Nat) : Int) := by simp
    have hin := shaped_in k (by omega) i x hx (by omega) (by omega) k0 k1 c again (gatepathlaw39_shaped.b1 (Cl ty tab) k (A.map ndE) f again [.int .i64 c, .int .i64 i]) (fun vs ag => .inl rfl) (c + 1) (fun ag => by
     unfold gatepathlaw39_shaped.b1
     simp (disch := omega) only [gds, e2, Int.natCast_add, Int.natCast_one])
    simp only [hvx, List.filter_cons, List.filter_nil, List.isEmpty_cons, Bool.not_false, if_true, List.length_cons, List.length_nil, Nat.zero_add] at ha
    rw [List.length_cons] at e0
    simp (disch := omega) only [gds, hlen, g, ndc, hvx, vsD, List.map_cons, e0, hfam, ne_eq, not_true_eq_false]
    rw [hin]
    rw [Int.natCast_add i, Int.natCast_one] at ha
    exact ha
 · unfold gatepathlaw39_shaped.b0
   rw [List.take_length, ← hown]
   by_cases h0 : A.length = 0
   · simp (disch := omega) only [gds, hlen, h0, Int.natCast_zero]
   · have hL : L ≠ [] := fun h => by
      have : (grow L).length = 0 := by rw [h]; rfl
      omega
     have h1 := (grow_len L.length 0 L hs (Nat.le_refl _) hL).2
     have h2 : A.length + 1 ≤ 2 * L.length := by rw [hlG]; exact h1
     have h3 : L.length ≤ A.length := by rw [hown]; exact List.length_filter_le ..
     have e1 : ¬ ((A.length : Nat) : Int) = 0 := by omega
     have e3 : ((A.length : Nat) : Int) ≤ 2 * ((L.length : Nat) : Int) - 1 := by omega
     simp (disch := omega) only [gds, hlen, e1, e3]
end Go.Proofs.Ytkfnkiejikhglaa.Own
namespace Go.Proofs.Ytkfnkiejikhglaa.Own
open Go Go.Proofs.Ytkfnkiejikhglaa.GD Go.Proofs.Ytkfnkiejikhglaa.GD.Trie Go.Sort
theorem vs_of {d : D} (h : fits (.sl 3) d = true) (hw : WT ty d) : ∃ (nb : Bool) (v : List Int), d = .sl 3 nb (vsD v) ∧ (nb = true → v = []) ∧ v.length ≤ 9223372036854775807 ∧ ∀ x, x ∈ v → -9223372036854775808 ≤ x ∧ x ≤ 9223372036854775807 := by
 obtain ⟨nb, els, rfl⟩ := fits_sl h
 obtain ⟨h1, h2, h3, h4⟩ := hw.els
 obtain ⟨v, rfl, hv⟩ := decode_list (f := D.int .i64) (Q := fun x => -9223372036854775808 ≤ x ∧ x ≤ 9223372036854775807) (els := els) fun d hd => by
  obtain ⟨x, rfl⟩ := fits_int (fits_one (h3 ⟨false, [.int .i64]⟩ rfl d hd))
  have := (h4 _ hd).rng
  simp [IntKind.min, IntKind.max, IntKind.signed, IntKind.bits] at this
  exact ⟨x, rfl, this⟩
 exact ⟨nb, v, rfl, fun h => by simpa using h2 h, by simpa using h1, hv⟩
theorem u64_of {n : Int} (h : WT ty (.int .u64 n)) : ∃ m : Nat, n = (m : Int) ∧ m < 18446744073709551616 := by
 have := h.rng
 simp [IntKind.min, IntKind.max, IntKind.signed, IntKind.bits] at this
 exact ⟨n.toNat, by omega, by omega⟩
theorem nr_of {d : D} (h : Vk.fits ⟨true, [.int .u8, .int .u64, .int .u64, .int .i64, .sl 3, .int .i64, .int .i64]⟩ d = true) (hw : WT ty d) : ∃ x : Nr, d = ndE x ∧ x.good := by
 obtain ⟨cs, rfl, h⟩ := fits_agg h
 obtain ⟨d1, cs, rfl, h1, h⟩ := fitsL_cons h
 obtain ⟨d2, cs, rfl, h2, h⟩ := fitsL_cons h
 obtain ⟨d3, cs, rfl, h3, h⟩ := fitsL_cons h
 obtain ⟨d4, cs, rfl, h4, h⟩ := fitsL_cons h
 obtain ⟨d5, cs, rfl, h5, h⟩ := fitsL_cons h
 obtain ⟨d6, cs, rfl, h6, h⟩ := fitsL_cons h
 obtain ⟨d7, cs, rfl, h7, h⟩ := fitsL_cons h
 obtain rfl := fitsL_nil h
 obtain ⟨f, rfl⟩ := fits_int h1
 obtain ⟨hh, rfl⟩ := fits_int h2
 obtain ⟨l, rfl⟩ := fits_int h3
 obtain ⟨n, rfl⟩ := fits_int h4
 obtain ⟨c0, rfl⟩ := fits_int h6
 obtain ⟨c1, rfl⟩ := fits_int h7
 obtain ⟨hh, rfl, b1⟩ := u64_of (hw.cells _ (by simp : D.int .u64 hh ∈ _))
 obtain ⟨l, rfl, b2⟩ := u64_of (hw.cells _ (by simp : D.int .u64 l ∈ _))
 obtain ⟨nb, v, rfl, e1, e2, e3⟩ := vs_of h5 (hw.cells _ (by simp))
 exact ⟨⟨f, hh, l, n, nb, v, c0, c1⟩, rfl, ⟨b1, b2⟩, e1⟩
theorem nodes_of {d : D} (h : fits (.sl 69) d = true) (hw : WT ty d) : ∃ (nb : Bool) (A : List Nr), d = .sl 69 nb (A.map ndE) ∧ (nb = true → A = []) ∧ A.length ≤ 9223372036854775807 ∧ ∀ x, x ∈ A → x.good := by
 obtain ⟨nb, els, rfl⟩ := fits_sl h
 obtain ⟨h1, h2, h3, h4⟩ := hw.els
 obtain ⟨A, rfl, hA⟩ := decode_list (f := ndE) (Q := Nr.good) (els := els) fun d hd => nr_of (h3 _ rfl d hd) (h4 _ hd)
 exact ⟨nb, A, rfl, fun h => by simpa using h2 h, by simpa using h1, hA⟩
theorem trie_of {d : D} (h : Vk.fits ⟨true, [.sl 69, .sl 69]⟩ d = true) (hw : WT ty d) : ∃ (n1 n2 : Bool) (A B : List Nr), d = .agg [.sl 69 n1 (A.map ndE), .sl 69 n2 (B.map ndE)] ∧ (n1 = true → A = []) ∧ (n2 = true → B = []) ∧
  A.length ≤ 9223372036854775807 ∧ B.length ≤ 9223372036854775807 ∧ (∀ x, x ∈ A → x.good) ∧ ∀ x, x ∈ B → x.good := by
 obtain ⟨cs, rfl, h⟩ := fits_agg h
 obtain ⟨d1, cs, rfl, h1, h⟩ := fitsL_cons h
 obtain ⟨d2, cs, rfl, h2, h⟩ := fitsL_cons h
 obtain rfl := fitsL_nil h
 obtain ⟨n1, A, rfl, a1, a2, a3⟩ := nodes_of h1 (hw.cells _ (by simp))
 obtain ⟨n2, B, rfl, b1, b2, b3⟩ := nodes_of h2 (hw.cells _ (by simp))
 exact ⟨n1, n2, A, B, rfl, a1, b1, a2, b2, a3, b3⟩
end Go.Proofs.Ytkfnkiejikhglaa.Own
