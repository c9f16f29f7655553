import Derived.Test.YtapfhcnigmighaaGreatG4
set_option linter.unusedVariables false
set_option linter.unusedSimpArgs false
namespace Go.Proofs.YtapfhcnigmighaaGreat.GD
open Go
theorem wrap_u64 (n : Int) : IntKind.u64.wrap n = n % 18446744073709551616 := by
 simp [IntKind.wrap, IntKind.bits, IntKind.signed]
theorem wrap_u64' {n : Nat} (h : n < 18446744073709551616) : IntKind.u64.wrap (n : Int) = n := by rw [wrap_u64]; omega
def clr (x n : Nat) : Nat := x - x % 2 ^ n
theorem clr_eq (x n : Nat) : clr x n = x / 2 ^ n * 2 ^ n := by
 unfold clr
 have := Nat.div_add_mod x (2 ^ n)
 rw [Nat.mul_comm] at this
 omega
theorem testBit_clr (x n i : Nat) : (clr x n).testBit i = (decide (n ≤ i) && x.testBit i) := by
 rw [clr_eq, ← Nat.shiftRight_eq_div_pow, ← Nat.shiftLeft_eq, Nat.testBit_shiftLeft, Nat.testBit_shiftRight]
 by_cases h : n ≤ i
 · simp [h, Nat.add_sub_cancel' h]
 · simp [h]
theorem testBit_ones (n i : Nat) (hn : n ≤ 64) : (18446744073709551616 - 2 ^ n).testBit i = (decide (n ≤ i) && decide (i < 64)) := by
 have e : 18446744073709551616 - 2 ^ n = clr (2 ^ 64 - 1) n := by
  unfold clr
  have hle : 2 ^ n ≤ 2 ^ 64 := Nat.pow_le_pow_right (by omega) hn
  have hpos : 0 < 2 ^ n := Nat.pow_pos (by omega)
  have : (2 ^ 64 - 1) % 2 ^ n = 2 ^ n - 1 := by
   obtain ⟨k, hk⟩ : ∃ k, 64 = n + k := ⟨64 - n, by omega⟩
   have h64 : (2 : Nat) ^ 64 = 2 ^ n * 2 ^ k := by rw [hk, Nat.pow_add]
   have hk1 : 0 < 2 ^ k := Nat.pow_pos (by omega)
   have e2 : 2 ^ 64 - 1 = 2 ^ n * (2 ^ k - 1) + (2 ^ n - 1) := by
    rw [h64, Nat.mul_sub, Nat.mul_one]
    have : 2 ^ n ≤ 2 ^ n * 2 ^ k := Nat.le_mul_of_pos_right _ hk1
    omega
   rw [e2, Nat.mul_add_mod, Nat.mod_eq_of_lt (by omega)]
  rw [this]
  omega
 rw [e, testBit_clr, Nat.testBit_two_pow_sub_one]
theorem and_ones {x n : Nat} (hx : x < 18446744073709551616) (hn : n ≤ 64) : x &&& (18446744073709551616 - 2 ^ n) = clr x n := by
 apply Nat.eq_of_testBit_eq
 intro i
 rw [Nat.testBit_and, testBit_ones n i hn, testBit_clr]
 by_cases h : i < 64
 · simp [h, Bool.and_comm]
 · have : x.testBit i = false := Nat.testBit_lt_two_pow (Nat.lt_of_lt_of_le hx (by
    have : (2 : Nat) ^ 64 ≤ 2 ^ i := Nat.pow_le_pow_right (by omega) (by omega)
    simpa using this))
   simp [this]
theorem and_low32 {x : Nat} : x &&& 4294967295 = x % 4294967296 := by
 have := Nat.and_two_pow_sub_one_eq_mod x 32
 simpa using this
theorem and_u64 {x y : Nat} (hx : x < 18446744073709551616) (hy : y < 18446744073709551616) : IntKind.u64.wrap (BitVec.ofInt (IntKind.u64).bits (x : Int) &&& BitVec.ofInt (IntKind.u64).bits (y : Int)).toNat = ((x &&& y : Nat) : Int) := by
 have e : (BitVec.ofInt (IntKind.u64).bits (x : Int) &&& BitVec.ofInt (IntKind.u64).bits (y : Int)).toNat = x &&& y := by
  show (BitVec.ofInt 64 (x : Int) &&& BitVec.ofInt 64 (y : Int)).toNat = x &&& y
  rw [BitVec.toNat_and]
  simp only [BitVec.ofInt_natCast, BitVec.toNat_ofNat]
  rw [Nat.mod_eq_of_lt (by simpa using hx), Nat.mod_eq_of_lt (by simpa using hy)]
 rw [e]
 exact wrap_u64' (Nat.lt_of_le_of_lt Nat.and_le_left hx)
theorem ones_shl {n : Nat} (hn : n ≤ 64) : IntKind.u64.wrap (18446744073709551615 * 2 ^ n) = ((18446744073709551616 - 2 ^ n : Nat) : Int) := by
 have hle : 2 ^ n ≤ 18446744073709551616 := by
  have : (2 : Nat) ^ n ≤ 2 ^ 64 := Nat.pow_le_pow_right (by omega) hn
  simpa using this
 have hpos : 0 < 2 ^ n := Nat.pow_pos (by omega)
 rw [wrap_u64]
 have e : (18446744073709551615 * 2 ^ n : Int) = ((18446744073709551615 * 2 ^ n : Nat) : Int) := by simp
 rw [e]
 have : 18446744073709551615 * 2 ^ n = 18446744073709551616 * (2 ^ n - 1) + (18446744073709551616 - 2 ^ n) := by
  rw [Nat.mul_sub, Nat.mul_one]
  have : 18446744073709551616 ≤ 18446744073709551616 * 2 ^ n := Nat.le_mul_of_pos_right _ hpos
  omega
 rw [this]
 omega
end Go.Proofs.YtapfhcnigmighaaGreat.GD
