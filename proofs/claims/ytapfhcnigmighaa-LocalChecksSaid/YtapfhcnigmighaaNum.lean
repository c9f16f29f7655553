import Derived.Test.YtapfhcnigmighaaR
import Derived.Test.YtapfhcnigmighaaNumP
namespace Go.Proofs.Ytapfhcnigmighaa.Own
open Go Go.Proofs.Ytapfhcnigmighaa.GD
set_option linter.unusedVariables false
set_option linter.unusedSimpArgs false

/-! addresses and prefixes: what is computed -/
def widthF (f : Int) : Nat := if f = 4 then 32 else if f = 6 then 128 else 0
def addrOk (f : Int) (h l : Nat) : Bool := if f = 6 then true else decide (f = 4 ∧ h = 0 ∧ l < 4294967296)

/-- an address without its last n bits -/
def cutA (f : Int) (h l n : Nat) : Nat × Nat := if 64 ≤ n then (clr h (n - 64), 0) else (h, clr l n)

/-- bit k of an address, from its end -/
def bitK (h l k : Nat) : Bool := if 63 < k then h.testBit (k - 64) else l.testBit k

def checkP (f : Int) (h l : Nat) (len : Int) : Int :=
  if widthF f = 0 then 2 else if addrOk f h l = true ∧ 0 ≤ len ∧ len ≤ widthF f ∧ cutA f h l (widthF f - len.toNat) = (h, l) then 0 else 8

abbrev A64 (h l : Nat) : D := .agg [.int .u64 (h : Int), .int .u64 (l : Int)]
abbrev P4 (f : Int) (h l : Nat) (len : Int) : D := .agg [.int .u8 f, .int .u64 (h : Int), .int .u64 (l : Int), .int .i64 len]

structure In64 (h l : Nat) : Prop where
  h : h < 18446744073709551616
  l : l < 18446744073709551616

theorem width_ok (f : Int) : Cl ty tab 60 [.int .u8 f] = some [.int .i64 (widthF f : Nat)] := by
  refine s_number_width 0 _ ?_
  unfold number_width widthF
  by_cases h4 : f = 4
  · simp (disch := omega) only [decide_true, decide_false, if_true, if_false, Bool.false_eq_true, Bool.true_eq_false, eq_self, Bool.true_or, Bool.false_or, Bool.true_and, Bool.false_and, Bool.or_true, Bool.or_false, Bool.and_true, Bool.and_false, List.getD_cons_zero, List.getD_cons_succ, cell_int, cell_bool, cell_str, cell_sl, cell_agg, i_int, b_bool, s_str, nb_sl, els_sl, nb_ov, els_ov, cs_pv, cs_agg, Int.toNat_natCast, toNat_sub1, toNat_add1, List.length_map, getD_map, ct, cf, beqd, bned, cp, cn, cnp, cnn, if_pos, if_neg, wrap64, Option.bind_some, Bool.not_true, Bool.not_false, List.isEmpty_nil, List.nil_append, List.length_nil, List.length_cons, Nat.zero_add, h4]; rfl
  · by_cases h6 : f = 6
    · simp (disch := omega) only [decide_true, decide_false, if_true, if_false, Bool.false_eq_true, Bool.true_eq_false, eq_self, Bool.true_or, Bool.false_or, Bool.true_and, Bool.false_and, Bool.or_true, Bool.or_false, Bool.and_true, Bool.and_false, List.getD_cons_zero, List.getD_cons_succ, cell_int, cell_bool, cell_str, cell_sl, cell_agg, i_int, b_bool, s_str, nb_sl, els_sl, nb_ov, els_ov, cs_pv, cs_agg, Int.toNat_natCast, toNat_sub1, toNat_add1, List.length_map, getD_map, ct, cf, beqd, bned, cp, cn, cnp, cnn, if_pos, if_neg, wrap64, Option.bind_some, Bool.not_true, Bool.not_false, List.isEmpty_nil, List.nil_append, List.length_nil, List.length_cons, Nat.zero_add, h4, h6]; rfl
    · simp (disch := omega) only [decide_true, decide_false, if_true, if_false, Bool.false_eq_true, Bool.true_eq_false, eq_self, Bool.true_or, Bool.false_or, Bool.true_and, Bool.false_and, Bool.or_true, Bool.or_false, Bool.and_true, Bool.and_false, List.getD_cons_zero, List.getD_cons_succ, cell_int, cell_bool, cell_str, cell_sl, cell_agg, i_int, b_bool, s_str, nb_sl, els_sl, nb_ov, els_ov, cs_pv, cs_agg, Int.toNat_natCast, toNat_sub1, toNat_add1, List.length_map, getD_map, ct, cf, beqd, bned, cp, cn, cnp, cnn, if_pos, if_neg, wrap64, Option.bind_some, Bool.not_true, Bool.not_false, List.isEmpty_nil, List.nil_append, List.length_nil, List.length_cons, Nat.zero_add, h4, h6]; rfl

theorem rwidth_ok (f : Int) : Cl ty tab 68 [.int .u8 f] = some [.int .i64 (widthF f : Nat)] := by
  refine s_gatepathref01_Width 0 _ ?_
  unfold gatepathref01_Width widthF
  by_cases h4 : f = 4
  · simp (disch := omega) only [decide_true, decide_false, if_true, if_false, Bool.false_eq_true, Bool.true_eq_false, eq_self, Bool.true_or, Bool.false_or, Bool.true_and, Bool.false_and, Bool.or_true, Bool.or_false, Bool.and_true, Bool.and_false, List.getD_cons_zero, List.getD_cons_succ, cell_int, cell_bool, cell_str, cell_sl, cell_agg, i_int, b_bool, s_str, nb_sl, els_sl, nb_ov, els_ov, cs_pv, cs_agg, Int.toNat_natCast, toNat_sub1, toNat_add1, List.length_map, getD_map, ct, cf, beqd, bned, cp, cn, cnp, cnn, if_pos, if_neg, wrap64, Option.bind_some, Bool.not_true, Bool.not_false, List.isEmpty_nil, List.nil_append, List.length_nil, List.length_cons, Nat.zero_add, h4]; rfl
  · by_cases h6 : f = 6
    · simp (disch := omega) only [decide_true, decide_false, if_true, if_false, Bool.false_eq_true, Bool.true_eq_false, eq_self, Bool.true_or, Bool.false_or, Bool.true_and, Bool.false_and, Bool.or_true, Bool.or_false, Bool.and_true, Bool.and_false, List.getD_cons_zero, List.getD_cons_succ, cell_int, cell_bool, cell_str, cell_sl, cell_agg, i_int, b_bool, s_str, nb_sl, els_sl, nb_ov, els_ov, cs_pv, cs_agg, Int.toNat_natCast, toNat_sub1, toNat_add1, List.length_map, getD_map, ct, cf, beqd, bned, cp, cn, cnp, cnn, if_pos, if_neg, wrap64, Option.bind_some, Bool.not_true, Bool.not_false, List.isEmpty_nil, List.nil_append, List.length_nil, List.length_cons, Nat.zero_add, h4, h6]; rfl
    · simp (disch := omega) only [decide_true, decide_false, if_true, if_false, Bool.false_eq_true, Bool.true_eq_false, eq_self, Bool.true_or, Bool.false_or, Bool.true_and, Bool.false_and, Bool.or_true, Bool.or_false, Bool.and_true, Bool.and_false, List.getD_cons_zero, List.getD_cons_succ, cell_int, cell_bool, cell_str, cell_sl, cell_agg, i_int, b_bool, s_str, nb_sl, els_sl, nb_ov, els_ov, cs_pv, cs_agg, Int.toNat_natCast, toNat_sub1, toNat_add1, List.length_map, getD_map, ct, cf, beqd, bned, cp, cn, cnp, cnn, if_pos, if_neg, wrap64, Option.bind_some, Bool.not_true, Bool.not_false, List.isEmpty_nil, List.nil_append, List.length_nil, List.length_cons, Nat.zero_add, h4, h6]; rfl

theorem addr_ok (f : Int) (h l : Nat) : Cl ty tab 61 [.int .u8 f, A64 h l] = some [.bool (addrOk f h l)] := by
  refine s_number_CheckAddr 0 _ _ _ ?_
  unfold number_CheckAddr addrOk
  by_cases h6 : f = 6
  · simp (disch := omega) only [decide_true, decide_false, if_true, if_false, Bool.false_eq_true, Bool.true_eq_false, eq_self, Bool.true_or, Bool.false_or, Bool.true_and, Bool.false_and, Bool.or_true, Bool.or_false, Bool.and_true, Bool.and_false, List.getD_cons_zero, List.getD_cons_succ, cell_int, cell_bool, cell_str, cell_sl, cell_agg, i_int, b_bool, s_str, nb_sl, els_sl, nb_ov, els_ov, cs_pv, cs_agg, Int.toNat_natCast, toNat_sub1, toNat_add1, List.length_map, getD_map, ct, cf, beqd, bned, cp, cn, cnp, cnn, if_pos, if_neg, wrap64, Option.bind_some, Bool.not_true, Bool.not_false, List.isEmpty_nil, List.nil_append, List.length_nil, List.length_cons, Nat.zero_add, h6]
  · by_cases h4 : f = 4
    · by_cases hh : h = 0
      · have : ((h : Int) = 0) := by omega
        have e : decide ((l : Int) < 4294967296) = decide (l < 4294967296) := by simp only [decide_eq_decide]; omega
        simp (disch := omega) only [decide_true, decide_false, if_true, if_false, Bool.false_eq_true, Bool.true_eq_false, eq_self, Bool.true_or, Bool.false_or, Bool.true_and, Bool.false_and, Bool.or_true, Bool.or_false, Bool.and_true, Bool.and_false, List.getD_cons_zero, List.getD_cons_succ, cell_int, cell_bool, cell_str, cell_sl, cell_agg, i_int, b_bool, s_str, nb_sl, els_sl, nb_ov, els_ov, cs_pv, cs_agg, Int.toNat_natCast, toNat_sub1, toNat_add1, List.length_map, getD_map, ct, cf, beqd, bned, cp, cn, cnp, cnn, if_pos, if_neg, wrap64, Option.bind_some, Bool.not_true, Bool.not_false, List.isEmpty_nil, List.nil_append, List.length_nil, List.length_cons, Nat.zero_add, h6, h4, this, hh, e, true_and]
      · have : ¬ ((h : Int) = 0) := by omega
        simp (disch := omega) only [decide_true, decide_false, if_true, if_false, Bool.false_eq_true, Bool.true_eq_false, eq_self, Bool.true_or, Bool.false_or, Bool.true_and, Bool.false_and, Bool.or_true, Bool.or_false, Bool.and_true, Bool.and_false, List.getD_cons_zero, List.getD_cons_succ, cell_int, cell_bool, cell_str, cell_sl, cell_agg, i_int, b_bool, s_str, nb_sl, els_sl, nb_ov, els_ov, cs_pv, cs_agg, Int.toNat_natCast, toNat_sub1, toNat_add1, List.length_map, getD_map, ct, cf, beqd, bned, cp, cn, cnp, cnn, if_pos, if_neg, wrap64, Option.bind_some, Bool.not_true, Bool.not_false, List.isEmpty_nil, List.nil_append, List.length_nil, List.length_cons, Nat.zero_add, h6, h4, this, hh, false_and, and_false]
    · simp (disch := omega) only [decide_true, decide_false, if_true, if_false, Bool.false_eq_true, Bool.true_eq_false, eq_self, Bool.true_or, Bool.false_or, Bool.true_and, Bool.false_and, Bool.or_true, Bool.or_false, Bool.and_true, Bool.and_false, List.getD_cons_zero, List.getD_cons_succ, cell_int, cell_bool, cell_str, cell_sl, cell_agg, i_int, b_bool, s_str, nb_sl, els_sl, nb_ov, els_ov, cs_pv, cs_agg, Int.toNat_natCast, toNat_sub1, toNat_add1, List.length_map, getD_map, ct, cf, beqd, bned, cp, cn, cnp, cnn, if_pos, if_neg, wrap64, Option.bind_some, Bool.not_true, Bool.not_false, List.isEmpty_nil, List.nil_append, List.length_nil, List.length_cons, Nat.zero_add, h6, h4, false_and]

theorem raddr_ok (f : Int) (h l : Nat) : Cl ty tab 69 [.int .u8 f, A64 h l] = some [.bool (addrOk f h l)] := by
  refine s_gatepathref01_CheckAddr 0 _ _ _ ?_
  unfold gatepathref01_CheckAddr addrOk
  by_cases h4 : f = 4
  · by_cases hh : h = 0
    · have : ((h : Int) = 0) := by omega
      have e : decide ((l : Int) ≤ 4294967295) = decide (l < 4294967296) := by simp only [decide_eq_decide]; omega
      have h6 : ¬ (4 : Int) = 6 := by omega
      simp (disch := omega) only [decide_true, decide_false, if_true, if_false, Bool.false_eq_true, Bool.true_eq_false, eq_self, Bool.true_or, Bool.false_or, Bool.true_and, Bool.false_and, Bool.or_true, Bool.or_false, Bool.and_true, Bool.and_false, List.getD_cons_zero, List.getD_cons_succ, cell_int, cell_bool, cell_str, cell_sl, cell_agg, i_int, b_bool, s_str, nb_sl, els_sl, nb_ov, els_ov, cs_pv, cs_agg, Int.toNat_natCast, toNat_sub1, toNat_add1, List.length_map, getD_map, ct, cf, beqd, bned, cp, cn, cnp, cnn, if_pos, if_neg, wrap64, Option.bind_some, Bool.not_true, Bool.not_false, List.isEmpty_nil, List.nil_append, List.length_nil, List.length_cons, Nat.zero_add, h4, this, hh, e, true_and, h6]
    · have : ¬ ((h : Int) = 0) := by omega
      have h6 : ¬ (4 : Int) = 6 := by omega
      simp (disch := omega) only [decide_true, decide_false, if_true, if_false, Bool.false_eq_true, Bool.true_eq_false, eq_self, Bool.true_or, Bool.false_or, Bool.true_and, Bool.false_and, Bool.or_true, Bool.or_false, Bool.and_true, Bool.and_false, List.getD_cons_zero, List.getD_cons_succ, cell_int, cell_bool, cell_str, cell_sl, cell_agg, i_int, b_bool, s_str, nb_sl, els_sl, nb_ov, els_ov, cs_pv, cs_agg, Int.toNat_natCast, toNat_sub1, toNat_add1, List.length_map, getD_map, ct, cf, beqd, bned, cp, cn, cnp, cnn, if_pos, if_neg, wrap64, Option.bind_some, Bool.not_true, Bool.not_false, List.isEmpty_nil, List.nil_append, List.length_nil, List.length_cons, Nat.zero_add, h4, this, hh, false_and, and_false, h6]
  · by_cases h6 : f = 6
    · simp (disch := omega) only [decide_true, decide_false, if_true, if_false, Bool.false_eq_true, Bool.true_eq_false, eq_self, Bool.true_or, Bool.false_or, Bool.true_and, Bool.false_and, Bool.or_true, Bool.or_false, Bool.and_true, Bool.and_false, List.getD_cons_zero, List.getD_cons_succ, cell_int, cell_bool, cell_str, cell_sl, cell_agg, i_int, b_bool, s_str, nb_sl, els_sl, nb_ov, els_ov, cs_pv, cs_agg, Int.toNat_natCast, toNat_sub1, toNat_add1, List.length_map, getD_map, ct, cf, beqd, bned, cp, cn, cnp, cnn, if_pos, if_neg, wrap64, Option.bind_some, Bool.not_true, Bool.not_false, List.isEmpty_nil, List.nil_append, List.length_nil, List.length_cons, Nat.zero_add, h6, h4]
    · simp (disch := omega) only [decide_true, decide_false, if_true, if_false, Bool.false_eq_true, Bool.true_eq_false, eq_self, Bool.true_or, Bool.false_or, Bool.true_and, Bool.false_and, Bool.or_true, Bool.or_false, Bool.and_true, Bool.and_false, List.getD_cons_zero, List.getD_cons_succ, cell_int, cell_bool, cell_str, cell_sl, cell_agg, i_int, b_bool, s_str, nb_sl, els_sl, nb_ov, els_ov, cs_pv, cs_agg, Int.toNat_natCast, toNat_sub1, toNat_add1, List.length_map, getD_map, ct, cf, beqd, bned, cp, cn, cnp, cnn, if_pos, if_neg, wrap64, Option.bind_some, Bool.not_true, Bool.not_false, List.isEmpty_nil, List.nil_append, List.length_nil, List.length_cons, Nat.zero_add, h6, h4, false_and]

theorem clr_lt {x n m : Nat} (h : x < m) : clr x n < m := Nat.lt_of_le_of_lt (clr_le x n) h

/-- the mask, and what it leaves of an address -/
theorem mask_ok (f : Int) (len : Int) (hf : f = 4 ∨ f = 6) (h0 : 0 ≤ len) (h1 : len ≤ widthF f) : ∃ mh ml : Nat, In64 mh ml ∧ Cl ty tab 63 [.int .u8 f, .int .i64 len] = some [A64 mh ml] ∧
    ∀ h l, In64 h l → addrOk f h l = true → (h &&& mh, l &&& ml) = cutA f h l (widthF f - len.toNat) := by
  have p64 : ∀ n, 18446744073709551616 - 2 ^ n < 18446744073709551616 := fun n => by have : 0 < 2 ^ n := Nat.pow_pos (by omega); omega
  rcases hf with rfl | rfl
  · have hw : widthF 4 = 32 := rfl
    rw [hw] at h1 ⊢
    obtain ⟨n, rfl⟩ : ∃ n : Nat, len = n := ⟨len.toNat, by omega⟩
    have e1 : ((18446744073709551616 - 2 ^ (32 - n) : Nat) &&& 4294967295) < 18446744073709551616 := Nat.lt_of_le_of_lt Nat.and_le_left (p64 _)
    refine ⟨0, (18446744073709551616 - 2 ^ (32 - n)) &&& 4294967295, ⟨by omega, e1⟩, ?_, ?_⟩
    · refine s_number_mask 0 _ _ ?_
      unfold number_mask
      have e2 : ((32 : Nat) : Int) - n = ((32 - n : Nat) : Int) := by omega
      have e3 : min (32 - n) (IntKind.u64).bits = 32 - n := by show min _ 64 = _; omega
      have e4 := ones_shl (n := 32 - n) (by omega)
      have e5 := and_u64 (p64 (32 - n)) (show 4294967295 < 18446744073709551616 by omega)
      simp (disch := omega) only [decide_true, decide_false, if_true, if_false, Bool.false_eq_true, Bool.true_eq_false, eq_self, Bool.true_or, Bool.false_or, Bool.true_and, Bool.false_and, Bool.or_true, Bool.or_false, Bool.and_true, Bool.and_false, List.getD_cons_zero, List.getD_cons_succ, cell_int, cell_bool, cell_str, cell_sl, cell_agg, i_int, b_bool, s_str, nb_sl, els_sl, nb_ov, els_ov, cs_pv, cs_agg, Int.toNat_natCast, toNat_sub1, toNat_add1, List.length_map, getD_map, ct, cf, beqd, bned, cp, cn, cnp, cnn, if_pos, if_neg, wrap64, Option.bind_some, Bool.not_true, Bool.not_false, List.isEmpty_nil, List.nil_append, List.length_nil, List.length_cons, Nat.zero_add, width_ok, hw, e2, e3, e4]
      rw [show ((4294967295 : Int)) = ((4294967295 : Nat) : Int) from rfl, e5]
      rfl
    · intro h l hr ha
      unfold addrOk at ha
      simp at ha
      obtain ⟨rfl, hl⟩ := ha
      have hn : ¬ 64 ≤ 32 - (n : Int).toNat := by omega
      unfold cutA
      rw [if_neg hn, Int.toNat_natCast]
      have : l &&& ((18446744073709551616 - 2 ^ (32 - n)) &&& 4294967295) = clr l (32 - n) := by
        rw [Nat.and_comm (18446744073709551616 - 2 ^ (32 - n)), ← Nat.and_assoc, and_low32, Nat.mod_eq_of_lt hl, and_ones hr.l (by omega)]
      rw [this]
      simp
  · have hw : widthF 6 = 128 := rfl
    rw [hw] at h1 ⊢
    obtain ⟨n, rfl⟩ : ∃ n : Nat, len = n := ⟨len.toNat, by omega⟩
    have e2 : ((128 : Nat) : Int) - n = ((128 - n : Nat) : Int) := by omega
    by_cases hn : 64 ≤ 128 - n
    · refine ⟨18446744073709551616 - 2 ^ (128 - n - 64), 0, ⟨p64 _, by omega⟩, ?_, ?_⟩
      · refine s_number_mask 0 _ _ ?_
        unfold number_mask
        have e3 : min (128 - n - 64) (IntKind.u64).bits = 128 - n - 64 := by show min _ 64 = _; omega
        have e4 := ones_shl (n := 128 - n - 64) (by omega)
        have e6 : ((128 - n : Nat) : Int) - 64 = ((128 - n - 64 : Nat) : Int) := by omega
        have e7 : (64 : Int) ≤ ((128 - n : Nat) : Int) := by omega
        simp (disch := omega) only [decide_true, decide_false, if_true, if_false, Bool.false_eq_true, Bool.true_eq_false, eq_self, Bool.true_or, Bool.false_or, Bool.true_and, Bool.false_and, Bool.or_true, Bool.or_false, Bool.and_true, Bool.and_false, List.getD_cons_zero, List.getD_cons_succ, cell_int, cell_bool, cell_str, cell_sl, cell_agg, i_int, b_bool, s_str, nb_sl, els_sl, nb_ov, els_ov, cs_pv, cs_agg, Int.toNat_natCast, toNat_sub1, toNat_add1, List.length_map, getD_map, ct, cf, beqd, bned, cp, cn, cnp, cnn, if_pos, if_neg, wrap64, Option.bind_some, Bool.not_true, Bool.not_false, List.isEmpty_nil, List.nil_append, List.length_nil, List.length_cons, Nat.zero_add, width_ok, hw, e2, e6, e7, e3, e4, show ¬ (6 : Int) = 4 by omega]
        rfl
      · intro h l hr ha
        unfold cutA
        rw [Int.toNat_natCast, if_pos hn, and_ones hr.h (by omega), Nat.and_zero]
    · refine ⟨18446744073709551615, 18446744073709551616 - 2 ^ (128 - n), ⟨by omega, p64 _⟩, ?_, ?_⟩
      · refine s_number_mask 0 _ _ ?_
        unfold number_mask
        have e3 : min (128 - n) (IntKind.u64).bits = 128 - n := by show min _ 64 = _; omega
        have e4 := ones_shl (n := 128 - n) (by omega)
        have e7 : ¬ (64 : Int) ≤ ((128 - n : Nat) : Int) := by omega
        simp (disch := omega) only [decide_true, decide_false, if_true, if_false, Bool.false_eq_true, Bool.true_eq_false, eq_self, Bool.true_or, Bool.false_or, Bool.true_and, Bool.false_and, Bool.or_true, Bool.or_false, Bool.and_true, Bool.and_false, List.getD_cons_zero, List.getD_cons_succ, cell_int, cell_bool, cell_str, cell_sl, cell_agg, i_int, b_bool, s_str, nb_sl, els_sl, nb_ov, els_ov, cs_pv, cs_agg, Int.toNat_natCast, toNat_sub1, toNat_add1, List.length_map, getD_map, ct, cf, beqd, bned, cp, cn, cnp, cnn, if_pos, if_neg, wrap64, Option.bind_some, Bool.not_true, Bool.not_false, List.isEmpty_nil, List.nil_append, List.length_nil, List.length_cons, Nat.zero_add, width_ok, hw, e2, e7, e3, e4, show ¬ (6 : Int) = 4 by omega]
        rfl
      · intro h l hr ha
        unfold cutA
        rw [Int.toNat_natCast, if_neg hn, and_ones hr.l (by omega)]
        have : h &&& 18446744073709551615 = h := by
          have := Nat.and_two_pow_sub_one_eq_mod h 64
          simp at this
          rw [this, Nat.mod_eq_of_lt hr.h]
        rw [this]

theorem and_ok (a b c d : Nat) (h1 : In64 a b) (h2 : In64 c d) : Cl ty tab 62 [A64 a b, A64 c d] = some [A64 (a &&& c) (b &&& d)] := by
  refine s_number_and 0 _ _ _ _ ?_
  unfold number_and
  rw [and_u64 h1.h h2.h, and_u64 h1.l h2.l]

theorem widthF_cases (f : Int) : widthF f = 0 ∨ (f = 4 ∧ widthF f = 32) ∨ (f = 6 ∧ widthF f = 128) := by
  unfold widthF
  by_cases h4 : f = 4
  · simp [h4]
  · by_cases h6 : f = 6 <;> simp [h4, h6]

theorem check_prefix_ok (f : Int) (h l : Nat) (len : Int) (hr : In64 h l) : Cl ty tab 32 [P4 f h l len] = some [.int .i64 (checkP f h l len)] := by
  refine s_number_Check 0 _ _ _ _ ?_
  unfold number_Check checkP
  rcases widthF_cases f with hw | hw
  · simp (disch := omega) only [decide_true, decide_false, if_true, if_false, Bool.false_eq_true, Bool.true_eq_false, eq_self, Bool.true_or, Bool.false_or, Bool.true_and, Bool.false_and, Bool.or_true, Bool.or_false, Bool.and_true, Bool.and_false, List.getD_cons_zero, List.getD_cons_succ, cell_int, cell_bool, cell_str, cell_sl, cell_agg, i_int, b_bool, s_str, nb_sl, els_sl, nb_ov, els_ov, cs_pv, cs_agg, Int.toNat_natCast, toNat_sub1, toNat_add1, List.length_map, getD_map, ct, cf, beqd, bned, cp, cn, cnp, cnn, if_pos, if_neg, wrap64, Option.bind_some, Bool.not_true, Bool.not_false, List.isEmpty_nil, List.nil_append, List.length_nil, List.length_cons, Nat.zero_add, width_ok, hw, Int.natCast_zero]
  have hw0 : ¬ widthF f = 0 := by rcases hw with ⟨_, h⟩ | ⟨_, h⟩ <;> omega
  have hw0' : ¬ ((widthF f : Nat) : Int) = 0 := by omega
  have hf : f = 4 ∨ f = 6 := by rcases hw with ⟨h, _⟩ | ⟨h, _⟩; exact .inl h; exact .inr h
  cases ha : addrOk f h l
  · simp (disch := omega) only [decide_true, decide_false, if_true, if_false, Bool.false_eq_true, Bool.true_eq_false, eq_self, Bool.true_or, Bool.false_or, Bool.true_and, Bool.false_and, Bool.or_true, Bool.or_false, Bool.and_true, Bool.and_false, List.getD_cons_zero, List.getD_cons_succ, cell_int, cell_bool, cell_str, cell_sl, cell_agg, i_int, b_bool, s_str, nb_sl, els_sl, nb_ov, els_ov, cs_pv, cs_agg, Int.toNat_natCast, toNat_sub1, toNat_add1, List.length_map, getD_map, ct, cf, beqd, bned, cp, cn, cnp, cnn, if_pos, if_neg, wrap64, Option.bind_some, Bool.not_true, Bool.not_false, List.isEmpty_nil, List.nil_append, List.length_nil, List.length_cons, Nat.zero_add, width_ok, hw0, hw0', addr_ok, ha, false_and]
  by_cases h1 : len < 0
  · have : ¬ 0 ≤ len := by omega
    simp (disch := omega) only [decide_true, decide_false, if_true, if_false, Bool.false_eq_true, Bool.true_eq_false, eq_self, Bool.true_or, Bool.false_or, Bool.true_and, Bool.false_and, Bool.or_true, Bool.or_false, Bool.and_true, Bool.and_false, List.getD_cons_zero, List.getD_cons_succ, cell_int, cell_bool, cell_str, cell_sl, cell_agg, i_int, b_bool, s_str, nb_sl, els_sl, nb_ov, els_ov, cs_pv, cs_agg, Int.toNat_natCast, toNat_sub1, toNat_add1, List.length_map, getD_map, ct, cf, beqd, bned, cp, cn, cnp, cnn, if_pos, if_neg, wrap64, Option.bind_some, Bool.not_true, Bool.not_false, List.isEmpty_nil, List.nil_append, List.length_nil, List.length_cons, Nat.zero_add, width_ok, hw0, hw0', addr_ok, ha, h1, this, false_and, and_false]
  by_cases h2 : ((widthF f : Nat) : Int) < len
  · have : ¬ len ≤ ((widthF f : Nat) : Int) := by omega
    simp (disch := omega) only [decide_true, decide_false, if_true, if_false, Bool.false_eq_true, Bool.true_eq_false, eq_self, Bool.true_or, Bool.false_or, Bool.true_and, Bool.false_and, Bool.or_true, Bool.or_false, Bool.and_true, Bool.and_false, List.getD_cons_zero, List.getD_cons_succ, cell_int, cell_bool, cell_str, cell_sl, cell_agg, i_int, b_bool, s_str, nb_sl, els_sl, nb_ov, els_ov, cs_pv, cs_agg, Int.toNat_natCast, toNat_sub1, toNat_add1, List.length_map, getD_map, ct, cf, beqd, bned, cp, cn, cnp, cnn, if_pos, if_neg, wrap64, Option.bind_some, Bool.not_true, Bool.not_false, List.isEmpty_nil, List.nil_append, List.length_nil, List.length_cons, Nat.zero_add, width_ok, hw0, hw0', addr_ok, ha, h1, h2, this, false_and, and_false]
  obtain ⟨mh, ml, hm, hmask, hcut⟩ := mask_ok f len hf (by omega) (by omega)
  have hc := hcut h l hr ha
  have hand := and_ok h l mh ml hr hm
  have h3 : 0 ≤ len := by omega
  have h4 : len ≤ ((widthF f : Nat) : Int) := by omega
  rw [← hc]
  simp (disch := omega) only [decide_true, decide_false, if_true, if_false, Bool.false_eq_true, Bool.true_eq_false, eq_self, Bool.true_or, Bool.false_or, Bool.true_and, Bool.false_and, Bool.or_true, Bool.or_false, Bool.and_true, Bool.and_false, List.getD_cons_zero, List.getD_cons_succ, cell_int, cell_bool, cell_str, cell_sl, cell_agg, i_int, b_bool, s_str, nb_sl, els_sl, nb_ov, els_ov, cs_pv, cs_agg, Int.toNat_natCast, toNat_sub1, toNat_add1, List.length_map, getD_map, ct, cf, beqd, bned, cp, cn, cnp, cnn, if_pos, if_neg, wrap64, Option.bind_some, Bool.not_true, Bool.not_false, List.isEmpty_nil, List.nil_append, List.length_nil, List.length_cons, Nat.zero_add, width_ok, hw0, hw0', addr_ok, ha, h1, h2, hmask, hand, h3, h4, true_and]
  by_cases q1 : h &&& mh = h
  · by_cases q2 : l &&& ml = l
    · have e1 : ((h &&& mh : Nat) : Int) = h := by rw [q1]
      have e2 : ((l &&& ml : Nat) : Int) = l := by rw [q2]
      rw [e1, e2]
      simp [q1, q2]
    · have e2 : ¬ ((l &&& ml : Nat) : Int) = l := by omega
      simp [q2, e2]
  · have e1 : ¬ ((h &&& mh : Nat) : Int) = h := by omega
    simp [q1, e1]

/-! the reference: bit by bit -/
theorem power_ok (n : Nat) (hn : n ≤ 63) : Cl ty tab 76 [.int .i64 n] = some [.int .u64 ((2 ^ n : Nat) : Int)] := by
  obtain ⟨k, hk⟩ := rounds
  refine s_gatepathref01_power k _ ?_
  unfold gatepathref01_power
  have := iter_ix (F := gatepathref01_power.b0 (Cl ty tab) k n) n (fun i => [.int .u64 ((2 ^ i : Nat) : Int), .int .i64 i]) (fun _ => some [.int .u64 ((2 ^ n : Nat) : Int)]) (fun i hi again ha => ?_) (fun again => ?_) k (by omega) 0 (by omega)
  · exact this
  · unfold gatepathref01_power.b0
    have h1 : (2 : Nat) ^ (i + 1) < 18446744073709551616 := by
      have : (2 : Nat) ^ (i + 1) ≤ 2 ^ 63 := Nat.pow_le_pow_right (by omega) (by omega)
      have e : (2 : Nat) ^ 63 = 9223372036854775808 := by rfl
      omega
    have h2 : IntKind.u64.wrap (((2 ^ i : Nat) : Int) + ((2 ^ i : Nat) : Int)) = ((2 ^ (i + 1) : Nat) : Int) := by
      rw [Nat.pow_succ] at h1 ⊢
      rw [wrap_u64]
      omega
    simp (disch := omega) only [decide_true, decide_false, if_true, if_false, Bool.false_eq_true, Bool.true_eq_false, eq_self, Bool.true_or, Bool.false_or, Bool.true_and, Bool.false_and, Bool.or_true, Bool.or_false, Bool.and_true, Bool.and_false, List.getD_cons_zero, List.getD_cons_succ, cell_int, cell_bool, cell_str, cell_sl, cell_agg, i_int, b_bool, s_str, nb_sl, els_sl, nb_ov, els_ov, cs_pv, cs_agg, Int.toNat_natCast, toNat_sub1, toNat_add1, List.length_map, getD_map, ct, cf, beqd, bned, cp, cn, cnp, cnn, if_pos, if_neg, wrap64, Option.bind_some, Bool.not_true, Bool.not_false, List.isEmpty_nil, List.nil_append, List.length_nil, List.length_cons, Nat.zero_add, h2, Int.natCast_add, Int.natCast_one] at ha ⊢
    exact ha
  · unfold gatepathref01_power.b0
    simp (disch := omega) only [decide_true, decide_false, if_true, if_false, Bool.false_eq_true, Bool.true_eq_false, eq_self, Bool.true_or, Bool.false_or, Bool.true_and, Bool.false_and, Bool.or_true, Bool.or_false, Bool.and_true, Bool.and_false, List.getD_cons_zero, List.getD_cons_succ, cell_int, cell_bool, cell_str, cell_sl, cell_agg, i_int, b_bool, s_str, nb_sl, els_sl, nb_ov, els_ov, cs_pv, cs_agg, Int.toNat_natCast, toNat_sub1, toNat_add1, List.length_map, getD_map, ct, cf, beqd, bned, cp, cn, cnp, cnn, if_pos, if_neg, wrap64, Option.bind_some, Bool.not_true, Bool.not_false, List.isEmpty_nil, List.nil_append, List.length_nil, List.length_cons, Nat.zero_add]

/-- the bits, from the first on -/
def bitsL (w h l : Nat) : List D := (List.range w).map fun i => D.int .i64 (if bitK h l (w - 1 - i) = true then 1 else 0)

theorem testBit_mod (x k : Nat) : ((x / 2 ^ k % 2 : Nat) : Int) = if x.testBit k = true then 1 else 0 := by
  rw [Nat.testBit_eq_decide_div_mod_eq]
  have : x / 2 ^ k % 2 < 2 := Nat.mod_lt _ (by omega)
  by_cases h : x / 2 ^ k % 2 = 1
  · simp [h]
  · have : x / 2 ^ k % 2 = 0 := by omega
    simp [this]

theorem bit_step {x k : Nat} (hx : x < 18446744073709551616) : IntKind.i64.wrap (Int.tmod (IntKind.u64.wrap ((x : Int).tdiv ((2 ^ k : Nat) : Int))) 2) = if x.testBit k = true then 1 else 0 := by
  have h1 : (x : Int).tdiv ((2 ^ k : Nat) : Int) = ((x / 2 ^ k : Nat) : Int) := rfl
  have h2 : x / 2 ^ k < 18446744073709551616 := Nat.lt_of_le_of_lt (Nat.div_le_self _ _) hx
  rw [h1, wrap_u64' h2]
  have h3 : Int.tmod ((x / 2 ^ k : Nat) : Int) 2 = ((x / 2 ^ k % 2 : Nat) : Int) := rfl
  rw [h3, testBit_mod]
  split <;> rfl

theorem bits_ok (f : Int) (h l : Nat) (hr : In64 h l) : Cl ty tab 70 [.int .u8 f, A64 h l] = some [.ov 3 (bitsL (widthF f) h l).isEmpty (bitsL (widthF f) h l)] := by
  obtain ⟨k, hk⟩ := rounds
  refine s_gatepathref01_Bits k _ _ _ ?_
  unfold gatepathref01_Bits
  simp (disch := omega) only [decide_true, decide_false, if_true, if_false, Bool.false_eq_true, Bool.true_eq_false, eq_self, Bool.true_or, Bool.false_or, Bool.true_and, Bool.false_and, Bool.or_true, Bool.or_false, Bool.and_true, Bool.and_false, List.getD_cons_zero, List.getD_cons_succ, cell_int, cell_bool, cell_str, cell_sl, cell_agg, i_int, b_bool, s_str, nb_sl, els_sl, nb_ov, els_ov, cs_pv, cs_agg, Int.toNat_natCast, toNat_sub1, toNat_add1, List.length_map, getD_map, ct, cf, beqd, bned, cp, cn, cnp, cnn, if_pos, if_neg, wrap64, Option.bind_some, Bool.not_true, Bool.not_false, List.isEmpty_nil, List.nil_append, List.length_nil, List.length_cons, Nat.zero_add, rwidth_ok]
  have hw : widthF f ≤ 128 := by rcases widthF_cases f with h | ⟨_, h⟩ | ⟨_, h⟩ <;> omega
  have hlen : ∀ i, i ≤ widthF f → ((bitsL (widthF f) h l).take i).length = i := fun i hi => by simp [bitsL]; omega
  have := iter_ix (F := gatepathref01_Bits.b0 (Cl ty tab) k [.int .i64 (widthF f : Nat)]) (widthF f) (fun i => [.ov 3 ((bitsL (widthF f) h l).take i).isEmpty ((bitsL (widthF f) h l).take i), .int .i64 i, .pv [.int .u64 (h : Int), .int .u64 (l : Int)]])
    (fun _ => some [.ov 3 (bitsL (widthF f) h l).isEmpty (bitsL (widthF f) h l)]) (fun i hi again ha => ?_) (fun again => ?_) k (by omega) 0 (by omega)
  · simpa using this
  · unfold gatepathref01_Bits.b0
    have hnext : (bitsL (widthF f) h l).take (i + 1) = (bitsL (widthF f) h l).take i ++ [D.int .i64 (if bitK h l (widthF f - 1 - i) = true then 1 else 0)] := by
      rw [List.take_add_one]
      simp [bitsL, hi]
    have hl1 := hlen i (by omega)
    rw [hnext] at ha
    generalize (bitsL (widthF f) h l).take i = pre at ha hl1 ⊢
    have he : ∀ x : D, (pre ++ [x]).isEmpty = false := fun x => by simp
    simp only [he] at ha
    have e1 : ((widthF f : Nat) : Int) - 1 - i = ((widthF f - 1 - i : Nat) : Int) := by omega
    unfold bitK at ha
    by_cases h63 : 63 < widthF f - 1 - i
    · rw [if_pos h63] at ha
      have e2 : ((widthF f - 1 - i : Nat) : Int) - 64 = ((widthF f - 1 - i - 64 : Nat) : Int) := by omega
      have e3 : (63 : Int) < ((widthF f - 1 - i : Nat) : Int) := by omega
      have hp := power_ok (widthF f - 1 - i - 64) (by omega)
      have hne : ¬ ((2 ^ (widthF f - 1 - i - 64) : Nat) : Int) = 0 := by have : 0 < 2 ^ (widthF f - 1 - i - 64) := Nat.pow_pos (by omega); omega
      have hb := bit_step (k := widthF f - 1 - i - 64) hr.h
      simp (disch := omega) only [decide_true, decide_false, if_true, if_false, Bool.false_eq_true, Bool.true_eq_false, eq_self, Bool.true_or, Bool.false_or, Bool.true_and, Bool.false_and, Bool.or_true, Bool.or_false, Bool.and_true, Bool.and_false, List.getD_cons_zero, List.getD_cons_succ, cell_int, cell_bool, cell_str, cell_sl, cell_agg, i_int, b_bool, s_str, nb_sl, els_sl, nb_ov, els_ov, cs_pv, cs_agg, Int.toNat_natCast, toNat_sub1, toNat_add1, List.length_map, getD_map, ct, cf, beqd, bned, cp, cn, cnp, cnn, if_pos, if_neg, wrap64, Option.bind_some, Bool.not_true, Bool.not_false, List.isEmpty_nil, List.nil_append, List.length_nil, List.length_cons, Nat.zero_add, e1, e2, e3, hp, hne, hb, hl1, Int.natCast_add, Int.natCast_one] at ha ⊢
      exact ha
    · rw [if_neg h63] at ha
      have e3 : ¬ (63 : Int) < ((widthF f - 1 - i : Nat) : Int) := by omega
      have hp := power_ok (widthF f - 1 - i) (by omega)
      have hne : ¬ ((2 ^ (widthF f - 1 - i) : Nat) : Int) = 0 := by have : 0 < 2 ^ (widthF f - 1 - i) := Nat.pow_pos (by omega); omega
      have hb := bit_step (k := widthF f - 1 - i) hr.l
      simp (disch := omega) only [decide_true, decide_false, if_true, if_false, Bool.false_eq_true, Bool.true_eq_false, eq_self, Bool.true_or, Bool.false_or, Bool.true_and, Bool.false_and, Bool.or_true, Bool.or_false, Bool.and_true, Bool.and_false, List.getD_cons_zero, List.getD_cons_succ, cell_int, cell_bool, cell_str, cell_sl, cell_agg, i_int, b_bool, s_str, nb_sl, els_sl, nb_ov, els_ov, cs_pv, cs_agg, Int.toNat_natCast, toNat_sub1, toNat_add1, List.length_map, getD_map, ct, cf, beqd, bned, cp, cn, cnp, cnn, if_pos, if_neg, wrap64, Option.bind_some, Bool.not_true, Bool.not_false, List.isEmpty_nil, List.nil_append, List.length_nil, List.length_cons, Nat.zero_add, e1, e3, hp, hne, hb, hl1, Int.natCast_add, Int.natCast_one] at ha ⊢
      exact ha
  · unfold gatepathref01_Bits.b0
    have : (bitsL (widthF f) h l).take (widthF f) = bitsL (widthF f) h l := List.take_of_length_le (by simp [bitsL])
    rw [this]
    simp (disch := omega) only [decide_true, decide_false, if_true, if_false, Bool.false_eq_true, Bool.true_eq_false, eq_self, Bool.true_or, Bool.false_or, Bool.true_and, Bool.false_and, Bool.or_true, Bool.or_false, Bool.and_true, Bool.and_false, List.getD_cons_zero, List.getD_cons_succ, cell_int, cell_bool, cell_str, cell_sl, cell_agg, i_int, b_bool, s_str, nb_sl, els_sl, nb_ov, els_ov, cs_pv, cs_agg, Int.toNat_natCast, toNat_sub1, toNat_add1, List.length_map, getD_map, ct, cf, beqd, bned, cp, cn, cnp, cnn, if_pos, if_neg, wrap64, Option.bind_some, Bool.not_true, Bool.not_false, List.isEmpty_nil, List.nil_append, List.length_nil, List.length_cons, Nat.zero_add]

/-- no bit is left exactly if nothing is cut away -/
theorem clr_id {x n : Nat} : clr x n = x ↔ ∀ k, k < n → x.testBit k = false := by
  constructor
  · intro h k hk
    have := testBit_clr x n k
    rw [h] at this
    simpa [Nat.not_le.2 hk] using this
  · intro h
    apply Nat.eq_of_testBit_eq
    intro i
    rw [testBit_clr]
    by_cases hi : n ≤ i
    · simp [hi]
    · simp [hi, h i (by omega)]

theorem cut_id {f : Int} {h l n : Nat} (hr : In64 h l) : cutA f h l n = (h, l) ↔ ∀ k, k < n → bitK h l k = false := by
  unfold cutA bitK
  by_cases hn : 64 ≤ n
  · rw [if_pos hn]
    simp only [Prod.mk.injEq]
    rw [clr_id]
    constructor
    · rintro ⟨h1, rfl⟩ k hk
      by_cases h63 : 63 < k
      · rw [if_pos h63]; exact h1 _ (by omega)
      · rw [if_neg h63]; simp
    · intro hz
      refine ⟨fun k hk => ?_, ?_⟩
      · have := hz (k + 64) (by omega)
        rw [if_pos (by omega)] at this
        simpa using this
      · apply Nat.eq_of_testBit_eq
        intro i
        by_cases hi : i < 64
        · have := hz i (by omega)
          rw [if_neg (by omega)] at this
          rw [this]; simp
        · have h2 : l.testBit i = false := Nat.testBit_lt_two_pow (Nat.lt_of_lt_of_le hr.l (by
            have : (2 : Nat) ^ 64 ≤ 2 ^ i := Nat.pow_le_pow_right (by omega) (by omega)
            simpa using this))
          rw [h2]; simp
  · rw [if_neg hn]
    simp only [Prod.mk.injEq, true_and]
    rw [clr_id]
    constructor
    · intro h1 k hk
      rw [if_neg (by omega)]; exact h1 k hk
    · intro hz k hk
      have := hz k hk
      rwa [if_neg (by omega)] at this

theorem bitsL_get {w h l i : Nat} (hi : i < w) : (bitsL w h l).getD i .undef = .int .i64 (if bitK h l (w - 1 - i) = true then 1 else 0) := by
  simp [bitsL, List.getD_eq_getElem?_getD, hi]

theorem rcheck_prefix_ok (f : Int) (h l : Nat) (len : Int) (hr : In64 h l) : Cl ty tab 49 [P4 f h l len] = some [.int .i64 (checkP f h l len)] := by
  obtain ⟨k, hk⟩ := rounds
  refine s_gatepathref01_Check k _ _ _ _ ?_
  unfold gatepathref01_Check checkP
  rcases widthF_cases f with hw | hw
  · simp (disch := omega) only [decide_true, decide_false, if_true, if_false, Bool.false_eq_true, Bool.true_eq_false, eq_self, Bool.true_or, Bool.false_or, Bool.true_and, Bool.false_and, Bool.or_true, Bool.or_false, Bool.and_true, Bool.and_false, List.getD_cons_zero, List.getD_cons_succ, cell_int, cell_bool, cell_str, cell_sl, cell_agg, i_int, b_bool, s_str, nb_sl, els_sl, nb_ov, els_ov, cs_pv, cs_agg, Int.toNat_natCast, toNat_sub1, toNat_add1, List.length_map, getD_map, ct, cf, beqd, bned, cp, cn, cnp, cnn, if_pos, if_neg, wrap64, Option.bind_some, Bool.not_true, Bool.not_false, List.isEmpty_nil, List.nil_append, List.length_nil, List.length_cons, Nat.zero_add, rwidth_ok, hw, Int.natCast_zero]
  have hw0 : ¬ widthF f = 0 := by rcases hw with ⟨_, h⟩ | ⟨_, h⟩ <;> omega
  have hw128 : widthF f ≤ 128 := by rcases hw with ⟨_, h⟩ | ⟨_, h⟩ <;> omega
  have hw0' : ¬ ((widthF f : Nat) : Int) = 0 := by omega
  cases ha : addrOk f h l
  · simp (disch := omega) only [decide_true, decide_false, if_true, if_false, Bool.false_eq_true, Bool.true_eq_false, eq_self, Bool.true_or, Bool.false_or, Bool.true_and, Bool.false_and, Bool.or_true, Bool.or_false, Bool.and_true, Bool.and_false, List.getD_cons_zero, List.getD_cons_succ, cell_int, cell_bool, cell_str, cell_sl, cell_agg, i_int, b_bool, s_str, nb_sl, els_sl, nb_ov, els_ov, cs_pv, cs_agg, Int.toNat_natCast, toNat_sub1, toNat_add1, List.length_map, getD_map, ct, cf, beqd, bned, cp, cn, cnp, cnn, if_pos, if_neg, wrap64, Option.bind_some, Bool.not_true, Bool.not_false, List.isEmpty_nil, List.nil_append, List.length_nil, List.length_cons, Nat.zero_add, rwidth_ok, hw0, hw0', raddr_ok, ha, false_and]
  by_cases h1 : len < 0
  · have : ¬ 0 ≤ len := by omega
    simp (disch := omega) only [decide_true, decide_false, if_true, if_false, Bool.false_eq_true, Bool.true_eq_false, eq_self, Bool.true_or, Bool.false_or, Bool.true_and, Bool.false_and, Bool.or_true, Bool.or_false, Bool.and_true, Bool.and_false, List.getD_cons_zero, List.getD_cons_succ, cell_int, cell_bool, cell_str, cell_sl, cell_agg, i_int, b_bool, s_str, nb_sl, els_sl, nb_ov, els_ov, cs_pv, cs_agg, Int.toNat_natCast, toNat_sub1, toNat_add1, List.length_map, getD_map, ct, cf, beqd, bned, cp, cn, cnp, cnn, if_pos, if_neg, wrap64, Option.bind_some, Bool.not_true, Bool.not_false, List.isEmpty_nil, List.nil_append, List.length_nil, List.length_cons, Nat.zero_add, rwidth_ok, hw0, hw0', raddr_ok, ha, h1, this, false_and, and_false]
  by_cases h2 : ((widthF f : Nat) : Int) < len
  · have : ¬ len ≤ ((widthF f : Nat) : Int) := by omega
    simp (disch := omega) only [decide_true, decide_false, if_true, if_false, Bool.false_eq_true, Bool.true_eq_false, eq_self, Bool.true_or, Bool.false_or, Bool.true_and, Bool.false_and, Bool.or_true, Bool.or_false, Bool.and_true, Bool.and_false, List.getD_cons_zero, List.getD_cons_succ, cell_int, cell_bool, cell_str, cell_sl, cell_agg, i_int, b_bool, s_str, nb_sl, els_sl, nb_ov, els_ov, cs_pv, cs_agg, Int.toNat_natCast, toNat_sub1, toNat_add1, List.length_map, getD_map, ct, cf, beqd, bned, cp, cn, cnp, cnn, if_pos, if_neg, wrap64, Option.bind_some, Bool.not_true, Bool.not_false, List.isEmpty_nil, List.nil_append, List.length_nil, List.length_cons, Nat.zero_add, rwidth_ok, hw0, hw0', raddr_ok, ha, h1, h2, this, false_and, and_false]
  obtain ⟨n, rfl⟩ : ∃ n : Nat, len = n := ⟨len.toNat, by omega⟩
  have h3 : (0 : Int) ≤ (n : Int) := by omega
  have h4 : (n : Int) ≤ ((widthF f : Nat) : Int) := by omega
  simp (disch := omega) only [decide_true, decide_false, if_true, if_false, Bool.false_eq_true, Bool.true_eq_false, eq_self, Bool.true_or, Bool.false_or, Bool.true_and, Bool.false_and, Bool.or_true, Bool.or_false, Bool.and_true, Bool.and_false, List.getD_cons_zero, List.getD_cons_succ, cell_int, cell_bool, cell_str, cell_sl, cell_agg, i_int, b_bool, s_str, nb_sl, els_sl, nb_ov, els_ov, cs_pv, cs_agg, Int.toNat_natCast, toNat_sub1, toNat_add1, List.length_map, getD_map, ct, cf, beqd, bned, cp, cn, cnp, cnn, if_pos, if_neg, wrap64, Option.bind_some, Bool.not_true, Bool.not_false, List.isEmpty_nil, List.nil_append, List.length_nil, List.length_cons, Nat.zero_add, rwidth_ok, hw0, hw0', raddr_ok, ha, h1, h2, h3, h4, bits_ok f h l hr, true_and]
  have hcid := cut_id (f := f) (n := widthF f - n) hr
  have hlen : (bitsL (widthF f) h l).length = widthF f := by simp [bitsL]
  have := iter_wf (F := gatepathref01_Check.b0 (Cl ty tab) k [.int .i64 (widthF f : Nat)] [.ov 3 (bitsL (widthF f) h l).isEmpty (bitsL (widthF f) h l)]) (σ := Nat) (fun i => [.int .i64 i, .ov 3 (bitsL (widthF f) h l).isEmpty (bitsL (widthF f) h l)])
    (fun i => some [.int .i64 (if ∀ j, j < widthF f - i → bitK h l j = false then 0 else 8)]) (fun i => widthF f - i) (fun i => i ≤ widthF f) (fun i hi again hag => ?_) k n (by omega) (by omega)
  · refine Eq.trans this ?_
    by_cases hz : ∀ j, j < widthF f - n → bitK h l j = false
    · rw [if_pos hz, if_pos (hcid.2 hz)]
    · rw [if_neg hz, if_neg (fun h => hz (hcid.1 h))]
  · unfold gatepathref01_Check.b0
    rcases Nat.lt_or_ge i (widthF f) with hlt | hge
    · have hg := bitsL_get (h := h) (l := l) hlt
      have hnext := hag (i + 1) (by omega) (by omega)
      cases hb : bitK h l (widthF f - 1 - i) with
      | true =>
        have : ¬ ∀ j, j < widthF f - i → bitK h l j = false := fun hz => by have := hz (widthF f - 1 - i) (by omega); rw [hb] at this; cases this
        rw [hb] at hg
        simp (disch := omega) only [decide_true, decide_false, if_true, if_false, Bool.false_eq_true, Bool.true_eq_false, eq_self, Bool.true_or, Bool.false_or, Bool.true_and, Bool.false_and, Bool.or_true, Bool.or_false, Bool.and_true, Bool.and_false, List.getD_cons_zero, List.getD_cons_succ, cell_int, cell_bool, cell_str, cell_sl, cell_agg, i_int, b_bool, s_str, nb_sl, els_sl, nb_ov, els_ov, cs_pv, cs_agg, Int.toNat_natCast, toNat_sub1, toNat_add1, List.length_map, getD_map, ct, cf, beqd, bned, cp, cn, cnp, cnn, if_pos, if_neg, wrap64, Option.bind_some, Bool.not_true, Bool.not_false, List.isEmpty_nil, List.nil_append, List.length_nil, List.length_cons, Nat.zero_add, hg, hlen, this, Int.reduceEq]
      | false =>
        have : (∀ j, j < widthF f - i → bitK h l j = false) ↔ ∀ j, j < widthF f - (i + 1) → bitK h l j = false := by
          constructor
          · intro hz j hj; exact hz j (by omega)
          · intro hz j hj
            by_cases e : j = widthF f - 1 - i
            · rw [e]; exact hb
            · exact hz j (by omega)
        simp only [this]
        rw [hb] at hg
        simp (disch := omega) only [decide_true, decide_false, if_true, if_false, Bool.false_eq_true, Bool.true_eq_false, eq_self, Bool.true_or, Bool.false_or, Bool.true_and, Bool.false_and, Bool.or_true, Bool.or_false, Bool.and_true, Bool.and_false, List.getD_cons_zero, List.getD_cons_succ, cell_int, cell_bool, cell_str, cell_sl, cell_agg, i_int, b_bool, s_str, nb_sl, els_sl, nb_ov, els_ov, cs_pv, cs_agg, Int.toNat_natCast, toNat_sub1, toNat_add1, List.length_map, getD_map, ct, cf, beqd, bned, cp, cn, cnp, cnn, if_pos, if_neg, wrap64, Option.bind_some, Bool.not_true, Bool.not_false, List.isEmpty_nil, List.nil_append, List.length_nil, List.length_cons, Nat.zero_add, hg, hlen, Int.natCast_add, Int.natCast_one] at hnext ⊢
        exact hnext
    · have : ∀ j, j < widthF f - i → bitK h l j = false := fun j hj => by omega
      simp (disch := omega) only [decide_true, decide_false, if_true, if_false, Bool.false_eq_true, Bool.true_eq_false, eq_self, Bool.true_or, Bool.false_or, Bool.true_and, Bool.false_and, Bool.or_true, Bool.or_false, Bool.and_true, Bool.and_false, List.getD_cons_zero, List.getD_cons_succ, cell_int, cell_bool, cell_str, cell_sl, cell_agg, i_int, b_bool, s_str, nb_sl, els_sl, nb_ov, els_ov, cs_pv, cs_agg, Int.toNat_natCast, toNat_sub1, toNat_add1, List.length_map, getD_map, ct, cf, beqd, bned, cp, cn, cnp, cnn, if_pos, if_neg, wrap64, Option.bind_some, Bool.not_true, Bool.not_false, List.isEmpty_nil, List.nil_append, List.length_nil, List.length_cons, Nat.zero_add, this, implies_true]

end Go.Proofs.Ytapfhcnigmighaa.Own
