import Derived.Test.YtklbnnkdkkcgoaaD
import Derived.Test.YtklbnnkdkkcgoaaRLeakHops
namespace Go.Proofs.Ytklbnnkdkkcgoaa.Own
open Go Go.Proofs.Ytklbnnkdkkcgoaa.GD
set_option linter.unusedVariables false
set_option linter.unusedSimpArgs false

/-- what the values of the kinds tell -/
theorem ints_of {els : List D} {nb : Bool} (h : WT ty (.sl 23 nb els)) : ∃ L : List Int, els = U L ∧ L.length ≤ 9223372036854775807 ∧ (nb = true → L = []) ∧ ∀ x, x ∈ L → 0 ≤ x ∧ x ≤ 4294967295 := by
  obtain ⟨hl, hn, hf, hw⟩ := h.els
  obtain ⟨L, rfl, hL⟩ := decode_list (f := fun x => D.int .u32 x) (Q := fun x => 0 ≤ x ∧ x ≤ 4294967295) (els := els) fun d hd => by
    obtain ⟨x, rfl⟩ := fits_int (fits_one (hf ⟨false, [.int .u32]⟩ (by rfl) d hd))
    exact ⟨x, rfl, (hw _ hd).rng⟩
  exact ⟨L, rfl, by simpa using hl, fun h => by have := hn h; simpa using this, hL⟩

theorem ats_of {els : List D} {nb : Bool} (h : WT ty (.sl 46 nb els)) : ∃ L : List At, els = L.map At.d ∧ Fine L := by
  obtain ⟨hl, hn, hf, hw⟩ := h.els
  obtain ⟨L, rfl, hL⟩ := decode_list (f := At.d) (Q := fun a => a.p.length ≤ 9223372036854775807) (els := els) fun d hd => by
    obtain ⟨cs, rfl, h1⟩ := fits_agg (hf ⟨true, [.int .u32, .sl 23]⟩ (by rfl) d hd)
    have h2 := (hw _ hd).cells
    obtain ⟨x, cs, rfl, h3, h1⟩ := fitsL_cons h1
    obtain ⟨y, cs, rfl, h4, h1⟩ := fitsL_cons h1
    obtain rfl := fitsL_nil h1
    obtain ⟨c, rfl⟩ := fits_int h3
    obtain ⟨nb, els, rfl⟩ := fits_sl h4
    obtain ⟨P, rfl, h5, _, _⟩ := ints_of (h2 (.sl 23 nb els) (by simp))
    exact ⟨⟨_, _, P⟩, rfl, h5⟩
  exact ⟨L, rfl, by simpa using hl, hL⟩

theorem greatF_no {l : List At} (h : greatF l = false) : l.length ≤ 310 := by
  unfold greatF at h
  simp only [Bool.or_eq_false_iff, decide_eq_false_iff_not] at h
  omega

theorem leakHops_cl (n : Bool) (l : List At) (c p : Int) (m : Bool) (L : List Int) (hl : Fine l) (hL : L.length ≤ 9223372036854775807) (hm : m = true → L = []) :
    Cl ty tab 3 [.sl 46 n (l.map At.d), .int .u32 c, .int .u32 p, .sl 23 m (U L)] = some [.bool true] := by
  obtain ⟨k, hk⟩ := rounds
  refine s_gatepathlaw41_LeakHops k _ _ _ _ _ _ ?_
  unfold gatepathlaw41_LeakHops
  simp (disch := omega) only [decide_true, decide_false, if_true, if_false, Bool.false_eq_true, Bool.true_eq_false, eq_self, Bool.true_or, Bool.false_or, Bool.true_and, Bool.false_and, Bool.or_true, Bool.or_false, Bool.and_true, Bool.and_false, List.getD_cons_zero, List.getD_cons_succ, cell_int, cell_bool, cell_str, cell_sl, cell_agg, i_int, b_bool, s_str, nb_sl, els_sl, nb_ov, els_ov, cs_pv, cs_agg, Int.toNat_natCast, toNat_sub1, toNat_add1, List.length_map, getD_map, ct, cf, beqd, bned, cp, cn, cnp, cnn, if_pos, if_neg, wrap64, Option.bind_some, Bool.not_true, Bool.not_false, List.isEmpty_nil, List.nil_append, List.length_nil, List.length_cons, Nat.zero_add, great_ok n l hl.len]
  cases hg : greatF l
  case true => simp (disch := omega) only [decide_true, decide_false, if_true, if_false, Bool.false_eq_true, Bool.true_eq_false, eq_self, Bool.true_or, Bool.false_or, Bool.true_and, Bool.false_and, Bool.or_true, Bool.or_false, Bool.and_true, Bool.and_false, List.getD_cons_zero, List.getD_cons_succ, cell_int, cell_bool, cell_str, cell_sl, cell_agg, i_int, b_bool, s_str, nb_sl, els_sl, nb_ov, els_ov, cs_pv, cs_agg, Int.toNat_natCast, toNat_sub1, toNat_add1, List.length_map, getD_map, ct, cf, beqd, bned, cp, cn, cnp, cnn, if_pos, if_neg, wrap64, Option.bind_some, Bool.not_true, Bool.not_false, List.isEmpty_nil, List.nil_append, List.length_nil, List.length_cons, Nat.zero_add]
  by_cases h1 : 100 < L.length
  · simp (disch := omega) only [decide_true, decide_false, if_true, if_false, Bool.false_eq_true, Bool.true_eq_false, eq_self, Bool.true_or, Bool.false_or, Bool.true_and, Bool.false_and, Bool.or_true, Bool.or_false, Bool.and_true, Bool.and_false, List.getD_cons_zero, List.getD_cons_succ, cell_int, cell_bool, cell_str, cell_sl, cell_agg, i_int, b_bool, s_str, nb_sl, els_sl, nb_ov, els_ov, cs_pv, cs_agg, Int.toNat_natCast, toNat_sub1, toNat_add1, List.length_map, getD_map, ct, cf, beqd, bned, cp, cn, cnp, cnn, if_pos, if_neg, wrap64, Option.bind_some, Bool.not_true, Bool.not_false, List.isEmpty_nil, List.nil_append, List.length_nil, List.length_cons, Nat.zero_add]
  have h2 := sq_len L
  simp (disch := omega) only [decide_true, decide_false, if_true, if_false, Bool.false_eq_true, Bool.true_eq_false, eq_self, Bool.true_or, Bool.false_or, Bool.true_and, Bool.false_and, Bool.or_true, Bool.or_false, Bool.and_true, Bool.and_false, List.getD_cons_zero, List.getD_cons_succ, cell_int, cell_bool, cell_str, cell_sl, cell_agg, i_int, b_bool, s_str, nb_sl, els_sl, nb_ov, els_ov, cs_pv, cs_agg, Int.toNat_natCast, toNat_sub1, toNat_add1, List.length_map, getD_map, ct, cf, beqd, bned, cp, cn, cnp, cnn, if_pos, if_neg, wrap64, Option.bind_some, Bool.not_true, Bool.not_false, List.isEmpty_nil, List.nil_append, List.length_nil, List.length_cons, Nat.zero_add, Hop_ok n l c p hl, rHop_ok n l c p hl, squeeze_ok m L (by omega) hm, check_ok n l hl, rcheck_ok n l hl, rsqueeze_ok m L (by omega), same_ok m L.isEmpty (sqF L) (sqF L) (by omega)]
  have key : ∀ b W, W = U L → iter k (gatepathlaw41_LeakHops.b0 (Cl ty tab) k m (U L) [.ov 23 m (U (sqF L))] [.bool true]) [.int .i64 0, .ov 23 b W, .ov 23 m (U (sqF L))] = some [.bool true] := by
    intro b W hW
    subst hW
    refine iter_wf (F := gatepathlaw41_LeakHops.b0 (Cl ty tab) k m (U L) [.ov 23 m (U (sqF L))] [.bool true]) (σ := Nat × List D) (fun s => [.int .i64 s.1, .ov 23 b (U L), .ov 23 m s.2]) (fun _ => some [.bool true]) (fun s => (sqF L).length - s.1)
      (fun s => s.1 ≤ (sqF L).length) (fun s hs again ha => ?_) k (0, U (sqF L)) (by simp) (by simp; omega)
    obtain ⟨i, E⟩ := s
    simp only at hs ha
    unfold gatepathlaw41_LeakHops.b0
    rcases Nat.lt_or_ge i (sqF L).length with hlt | hge
    · simp (disch := omega) only [decide_true, decide_false, if_true, if_false, Bool.false_eq_true, Bool.true_eq_false, eq_self, Bool.true_or, Bool.false_or, Bool.true_and, Bool.false_and, Bool.or_true, Bool.or_false, Bool.and_true, Bool.and_false, List.getD_cons_zero, List.getD_cons_succ, cell_int, cell_bool, cell_str, cell_sl, cell_agg, i_int, b_bool, s_str, nb_sl, els_sl, nb_ov, els_ov, cs_pv, cs_agg, Int.toNat_natCast, toNat_sub1, toNat_add1, List.length_map, getD_map, ct, cf, beqd, bned, cp, cn, cnp, cnn, if_pos, if_neg, wrap64, Option.bind_some, Bool.not_true, Bool.not_false, List.isEmpty_nil, List.nil_append, List.length_nil, List.length_cons, Nat.zero_add]
      exact ha (i + 1, _) (by simp only; omega) (by simp only; omega)
    · simp (disch := omega) only [decide_true, decide_false, if_true, if_false, Bool.false_eq_true, Bool.true_eq_false, eq_self, Bool.true_or, Bool.false_or, Bool.true_and, Bool.false_and, Bool.or_true, Bool.or_false, Bool.and_true, Bool.and_false, List.getD_cons_zero, List.getD_cons_succ, cell_int, cell_bool, cell_str, cell_sl, cell_agg, i_int, b_bool, s_str, nb_sl, els_sl, nb_ov, els_ov, cs_pv, cs_agg, Int.toNat_natCast, toNat_sub1, toNat_add1, List.length_map, getD_map, ct, cf, beqd, bned, cp, cn, cnp, cnn, if_pos, if_neg, wrap64, Option.bind_some, Bool.not_true, Bool.not_false, List.isEmpty_nil, List.nil_append, List.length_nil, List.length_cons, Nat.zero_add, same_ok m b L L (by omega)]
  exact key _ _ rfl

theorem leakHops_law : LawTrue ty tab 3 [⟨false, [.sl 46]⟩, ⟨false, [.int .u32]⟩, ⟨false, [.int .u32]⟩, ⟨false, [.sl 23]⟩] := by
  refine lawTrue_of fun dd hf hw => ?_
  obtain ⟨d1, dd, rfl, h1, hf⟩ := fitsV_cons hf
  obtain ⟨d2, dd, rfl, h2, hf⟩ := fitsV_cons hf
  obtain ⟨d3, dd, rfl, h3, hf⟩ := fitsV_cons hf
  obtain ⟨d4, dd, rfl, h4, hf⟩ := fitsV_cons hf
  obtain rfl := fitsV_nil hf
  obtain ⟨n, els, rfl⟩ := fits_sl (fits_one h1)
  obtain ⟨c, rfl⟩ := fits_int (fits_one h2)
  obtain ⟨p, rfl⟩ := fits_int (fits_one h3)
  obtain ⟨m, els2, rfl⟩ := fits_sl (fits_one h4)
  obtain ⟨l, rfl, hl⟩ := ats_of (hw (.sl 46 n els) (by simp))
  obtain ⟨L, rfl, hL, hm, _⟩ := ints_of (hw (.sl 23 m els2) (by simp))
  exact leakHops_cl _ _ _ _ _ _ hl hL hm

end Go.Proofs.Ytklbnnkdkkcgoaa.Own
