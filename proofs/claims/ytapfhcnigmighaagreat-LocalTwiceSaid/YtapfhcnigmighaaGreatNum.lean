import Derived.Test.YtapfhcnigmighaaGreatR
import Derived.Test.YtapfhcnigmighaaGreatNumP
set_option linter.unusedVariables false
set_option linter.unusedSimpArgs false
namespace Go.Proofs.YtapfhcnigmighaaGreat.Own
open Go Go.Proofs.YtapfhcnigmighaaGreat.GD
def widthF (f : Int) : Nat := if f = 4 then 32 else if f = 6 then 128 else 0
def addrOk (f : Int) (h l : Nat) : Bool := if f = 6 then true else decide (f = 4 ∧ h = 0 ∧ l < 4294967296)
def cutA (f : Int) (h l n : Nat) : Nat × Nat := if 64 ≤ n then (clr h (n - 64), 0) else (h, clr l n)
def checkP (f : Int) (h l : Nat) (len : Int) : Int :=
 if widthF f = 0 then 2 else if addrOk f h l = true ∧ 0 ≤ len ∧ len ≤ widthF f ∧ cutA f h l (widthF f - len.toNat) = (h, l) then 0 else 8
abbrev A64 (h l : Nat) : D := .agg [.int .u64 (h : Int), .int .u64 (l : Int)]
abbrev P4 (f : Int) (h l : Nat) (len : Int) : D := .agg [.int .u8 f, .int .u64 (h : Int), .int .u64 (l : Int), .int .i64 len]
structure In64 (h l : Nat) : Prop where
 h : h < 18446744073709551616
 l : l < 18446744073709551616
theorem width_ok (f : Int) : Cl ty tab 130 [.int .u8 f] = some [.int .i64 (widthF f : Nat)] := by
 refine s_number_width 0 _ ?_
 unfold number_width widthF
 by_cases h4 : f = 4
 · simp (disch := omega) only [gds, h4]; rfl
 · by_cases h6 : f = 6
   · simp (disch := omega) only [gds, h4, h6]; rfl
   · simp (disch := omega) only [gds, h4, h6]; rfl
theorem addr_ok (f : Int) (h l : Nat) : Cl ty tab 131 [.int .u8 f, A64 h l] = some [.bool (addrOk f h l)] := by
 refine s_number_CheckAddr 0 _ _ _ ?_
 unfold number_CheckAddr addrOk
 by_cases h6 : f = 6
 · simp (disch := omega) only [gds, h6]
 · by_cases h4 : f = 4
   · by_cases hh : h = 0
     · have : ((h : Int) = 0) := by omega
       have e : decide ((l : Int) < 4294967296) = decide (l < 4294967296) := by simp only [decide_eq_decide]; omega
       simp (disch := omega) only [gds, h6, h4, this, hh, e, true_and]
     · have : ¬ ((h : Int) = 0) := by omega
       simp (disch := omega) only [gds, h6, h4, this, hh, false_and, and_false]
   · simp (disch := omega) only [gds, h6, h4, false_and]
theorem mask_ok (f : Int) (len : Int) (hf : f = 4 ∨ f = 6) (h0 : 0 ≤ len) (h1 : len ≤ widthF f) : ∃ mh ml : Nat, In64 mh ml ∧ Cl ty tab 71 [.int .u8 f, .int .i64 len] = some [A64 mh ml] ∧
  ∀ h l, In64 h l → addrOk f h l = true → (h &&& mh, l &&& ml) = cutA f h l (widthF f - len.toNat) := by
 have p64 : ∀ n, 18446744073709551616 - 2 ^ n < 18446744073709551616 := fun n => by have : 0 < 2 ^ n := Nat.pow_pos (by omega); omega
 rcases hf with rfl | rfl
 · have hw : widthF 4 = 32 := rfl
   rw [hw] at h1 ⊢
   obtain ⟨n, rfl⟩ : ∃ n : Nat, len = n := ⟨len.toNat, by omega⟩
   have e1 : ((18446744073709551616 - 2 ^ (32 - n) : Nat) &&& 4294967295) < 18446744073709551616 := Nat.lt_of_le_of_lt Nat.and_le_left (p64 _)
   refine ⟨0, (18446744073709551616 - 2 ^ (32 - n)) &&& 4294967295, ⟨by omega, e1⟩, ?_, ?_⟩
   · refine s_number_mask 0 _ _ ?_
     unfold number_mask
     have e2 : ((32 : Nat) : Int) - n = ((32 - n : Nat) : Int) := by omega
     have e3 : min (32 - n) (IntKind.u64).bits = 32 - n := by show min _ 64 = _; omega
     have e4 := ones_shl (n := 32 - n) (by omega)
     have e5 := and_u64 (p64 (32 - n)) (show 4294967295 < 18446744073709551616 by omega)
     simp (disch := omega) only [gds, width_ok, hw, e2, e3, e4]
     rw [show ((4294967295 : Int)) = ((4294967295 : Nat) : Int) from rfl, e5]
     rfl
   · intro h l hr ha
     unfold addrOk at ha
     simp at ha
     obtain ⟨rfl, hl⟩ := ha
     have hn : ¬ 64 ≤ 32 - (n : Int).toNat := by omega
     unfold cutA
     rw [if_neg hn, Int.toNat_natCast]
     have : l &&& ((18446744073709551616 - 2 ^ (32 - n)) &&& 4294967295) = clr l (32 - n) := by
      rw [Nat.and_comm (18446744073709551616 - 2 ^ (32 - n)), ← Nat.and_assoc, and_low32, Nat.mod_eq_of_lt hl, and_ones hr.l (by omega)]
     rw [this]
     simp
 · have hw : widthF 6 = 128 := rfl
   rw [hw] at h1 ⊢
   obtain ⟨n, rfl⟩ : ∃ n : Nat, len = n := ⟨len.toNat, by omega⟩
   have e2 : ((128 : Nat) : Int) - n = ((128 - n : Nat) : Int) := by omega
   by_cases hn : 64 ≤ 128 - n
   · refine ⟨18446744073709551616 - 2 ^ (128 - n - 64), 0, ⟨p64 _, by omega⟩, ?_, ?_⟩
     · refine s_number_mask 0 _ _ ?_
       unfold number_mask
       have e3 : min (128 - n - 64) (IntKind.u64).bits = 128 - n - 64 := by show min _ 64 = _; omega
       have e4 := ones_shl (n := 128 - n - 64) (by omega)
       have e6 : ((128 - n : Nat) : Int) - 64 = ((128 - n - 64 : Nat) : Int) := by omega
       have e7 : (64 : Int) ≤ ((128 - n : Nat) : Int) := by omega
       simp (disch := omega) only [gds, width_ok, hw, e2, e6, e7, e3, e4, show ¬ (6 : Int) = 4 by omega]
       rfl
     · intro h l hr ha
       unfold cutA
       rw [Int.toNat_natCast, if_pos hn, and_ones hr.h (by omega), Nat.and_zero]
   · refine ⟨18446744073709551615, 18446744073709551616 - 2 ^ (128 - n), ⟨by omega, p64 _⟩, ?_, ?_⟩
     · refine s_number_mask 0 _ _ ?_
       unfold number_mask
       have e3 : min (128 - n) (IntKind.u64).bits = 128 - n := by show min _ 64 = _; omega
       have e4 := ones_shl (n := 128 - n) (by omega)
       have e7 : ¬ (64 : Int) ≤ ((128 - n : Nat) : Int) := by omega
       simp (disch := omega) only [gds, width_ok, hw, e2, e7, e3, e4, show ¬ (6 : Int) = 4 by omega]
       rfl
     · intro h l hr ha
       unfold cutA
       rw [Int.toNat_natCast, if_neg hn, and_ones hr.l (by omega)]
       have : h &&& 18446744073709551615 = h := by
        have := Nat.and_two_pow_sub_one_eq_mod h 64
        simp at this
        rw [this, Nat.mod_eq_of_lt hr.h]
       rw [this]
theorem and_ok (a b c d : Nat) (h1 : In64 a b) (h2 : In64 c d) : Cl ty tab 70 [A64 a b, A64 c d] = some [A64 (a &&& c) (b &&& d)] := by
 refine s_number_and 0 _ _ _ _ ?_
 unfold number_and
 rw [and_u64 h1.h h2.h, and_u64 h1.l h2.l]
theorem widthF_cases (f : Int) : widthF f = 0 ∨ (f = 4 ∧ widthF f = 32) ∨ (f = 6 ∧ widthF f = 128) := by
 unfold widthF
 by_cases h4 : f = 4
 · simp [h4]
 · by_cases h6 : f = 6 <;> simp [h4, h6]
theorem check_prefix_ok (f : Int) (h l : Nat) (len : Int) (hr : In64 h l) : Cl ty tab 69 [P4 f h l len] = some [.int .i64 (checkP f h l len)] := by
 refine s_number_Check 0 _ _ _ _ ?_
 unfold number_Check checkP
 rcases widthF_cases f with hw | hw
 · simp (disch := omega) only [gds, width_ok, hw, Int.natCast_zero]
 have hw0 : ¬ widthF f = 0 := by rcases hw with ⟨_, h⟩ | ⟨_, h⟩ <;> omega
 have hw0' : ¬ ((widthF f : Nat) : Int) = 0 := by omega
 have hf : f = 4 ∨ f = 6 := by rcases hw with ⟨h, _⟩ | ⟨h, _⟩; exact .inl h; exact .inr h
 cases ha : addrOk f h l
 · simp (disch := omega) only [gds, width_ok, hw0, hw0', addr_ok, ha, false_and]
 by_cases h1 : len < 0
 · have : ¬ 0 ≤ len := by omega
   simp (disch := omega) only [gds, width_ok, hw0, hw0', addr_ok, ha, h1, this, false_and, and_false]
 by_cases h2 : ((widthF f : Nat) : Int) < len
 · have : ¬ len ≤ ((widthF f : Nat) : Int) := by omega
   simp (disch := omega) only [gds, width_ok, hw0, hw0', addr_ok, ha, h1, h2, this, false_and, and_false]
 obtain ⟨mh, ml, hm, hmask, hcut⟩ := mask_ok f len hf (by omega) (by omega)
 have hc := hcut h l hr ha
 have hand := and_ok h l mh ml hr hm
 have h3 : 0 ≤ len := by omega
 have h4 : len ≤ ((widthF f : Nat) : Int) := by omega
 rw [← hc]
 simp (disch := omega) only [gds, width_ok, hw0, hw0', addr_ok, ha, h1, h2, hmask, hand, h3, h4, true_and]
 by_cases q1 : h &&& mh = h
 · by_cases q2 : l &&& ml = l
   · have e1 : ((h &&& mh : Nat) : Int) = h := by rw [q1]
     have e2 : ((l &&& ml : Nat) : Int) = l := by rw [q2]
     rw [e1, e2]
     simp [q1, q2]
   · have e2 : ¬ ((l &&& ml : Nat) : Int) = l := by omega
     simp [q2, e2]
 · have e1 : ¬ ((h &&& mh : Nat) : Int) = h := by omega
   simp [q1, e1]
end Go.Proofs.YtapfhcnigmighaaGreat.Own
