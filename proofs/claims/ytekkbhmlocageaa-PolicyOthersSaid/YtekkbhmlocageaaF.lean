import Derived.Test.YtekkbhmlocageaaE
namespace Go.Proofs.Ytekkbhmlocageaa.Own
open Go Go.Proofs.Ytekkbhmlocageaa.GD
set_option linter.unusedVariables false
set_option linter.unusedSimpArgs false

theorem cells_wt {ks : List Sk} {d : D} (hf : Vk.fits ⟨true, ks⟩ d = true) (hw : WT ty d) {j : Nat} {s : Sk} (hj : ks[j]? = some s) : fits s (d.cell j) = true ∧ WT ty (d.cell j) := by
  have h1 := Vk.fits_cells hf j s hj
  refine ⟨h1, ?_⟩
  obtain ⟨cs, rfl, hfl⟩ := fits_agg hf
  have hlt : j < cs.length := by
    have h2 := (fitsL_spec hfl).1
    have h3 := (List.getElem?_eq_some_iff.1 hj).1
    omega
  have e : (D.agg cs).cell j = cs[j] := by
    show cs.getD j .undef = cs[j]
    exact getD_get hlt
  rw [e]
  exact hw.cells _ (List.getElem_mem hlt)

theorem int_wt {ks : List Sk} {d : D} (hf : Vk.fits ⟨true, ks⟩ d = true) (hw : WT ty d) {j : Nat} {k : IntKind} (hj : ks[j]? = some (.int k)) : k.min ≤ (d.cell j).i ∧ (d.cell j).i ≤ k.max := by
  obtain ⟨h1, h2⟩ := cells_wt hf hw hj
  obtain ⟨n, e⟩ := fits_int h1
  rw [e] at h2 ⊢
  exact h2.rng

theorem ints_of {e : TypeId} {k : IntKind} (hty : ty e = some ⟨false, [.int k]⟩) {nb : Bool} {els : List D} (h : WT ty (.sl e nb els)) : els.length ≤ 9223372036854775807 ∧ ∃ L : List Int, els = L.map (D.int k) ∧ ∀ x, x ∈ L → k.min ≤ x ∧ x ≤ k.max := by
  obtain ⟨hl, hn, hf, hw⟩ := h.els
  refine ⟨hl, ?_⟩
  obtain ⟨L, h1, h2⟩ := decode_list (f := D.int k) (Q := fun x => k.min ≤ x ∧ x ≤ k.max) (els := els) (fun d hd => by
    obtain ⟨n, rfl⟩ := fits_int (fits_one (hf _ hty d hd))
    exact ⟨n, rfl, (hw _ hd).rng⟩)
  exact ⟨L, h1, h2⟩

theorem jd_of {d : D} (hf : Vk.fits ⟨true, ks0⟩ d = true) (hw : WT ty d) : Jd d := by
  have m64 : (IntKind.u64).min = 0 ∧ (IntKind.u64).max = 18446744073709551615 := by decide
  have m32 : (IntKind.u32).min = 0 ∧ (IntKind.u32).max = 4294967295 := by decide
  have m8 : (IntKind.u8).min = 0 ∧ (IntKind.u8).max = 255 := by decide
  obtain ⟨s1, s2⟩ := cells_wt hf hw (j := 4) (s := .sl 30) rfl
  obtain ⟨nb, els, e⟩ := fits_sl s1
  rw [e] at s2
  obtain ⟨hl, L, hL, hr⟩ := ints_of (k := .u32) rfl s2
  have ee : (d.cell 4).els = els := by rw [e]; rfl
  have c1 := int_wt hf hw (j := 1) (k := .u64) rfl
  have c2 := int_wt hf hw (j := 2) (k := .u64) rfl
  have c6 := int_wt hf hw (j := 6) (k := .u32) rfl
  have c7 := int_wt hf hw (j := 7) (k := .u32) rfl
  have c8 := int_wt hf hw (j := 8) (k := .u32) rfl
  have c14 := int_wt hf hw (j := 14) (k := .u8) rfl
  have c15 := int_wt hf hw (j := 15) (k := .u8) rfl
  have c16 := int_wt hf hw (j := 16) (k := .u8) rfl
  exact ⟨hf, by omega, by omega, by omega, by omega, by omega, by omega, by omega, by omega, by rw [ee]; exact hl, L, by rw [ee]; exact hL, fun x hx => by have := hr x hx; omega⟩

/-! is a route greater than is spoken of -/
theorem hop_ok (x : Int) (n m : Bool) (a b : List D) : Cl ty tab 35 [.agg [.int .i64 x, .sl 78 n a, .sl 78 m b]] = some [.bool (decide (100 < a.length) || decide (100 < b.length))] := by
  refine s_gatepathref07_Great 0 _ _ _ _ _ ?_
  unfold gatepathref07_Great
  by_cases h : 100 < a.length
  · simp (disch := omega) only [decide_true, decide_false, if_true, if_false, Bool.false_eq_true, Bool.true_eq_false, eq_self, Bool.true_or, Bool.false_or, Bool.true_and, Bool.false_and, Bool.or_true, Bool.or_false, Bool.and_true, Bool.and_false, List.getD_cons_zero, List.getD_cons_succ, cell_int, cell_bool, cell_str, cell_sl, cell_agg, i_int, b_bool, s_str, nb_sl, els_sl, nb_ov, els_ov, cs_pv, cs_agg, Int.toNat_natCast, toNat_sub1, toNat_add1, List.length_map, getD_map, ct, cf, beqd, bned, cp, cn, cnp, cnn, if_pos, if_neg, wrap64, Option.bind_some, Bool.not_true, Bool.not_false, List.isEmpty_nil, List.nil_append, List.length_nil, List.length_cons, Nat.zero_add, h]
  · have e : decide ((100 : Int) < ((b.length : Nat) : Int)) = decide (100 < b.length) := by simp only [decide_eq_decide]; omega
    simp (disch := omega) only [decide_true, decide_false, if_true, if_false, Bool.false_eq_true, Bool.true_eq_false, eq_self, Bool.true_or, Bool.false_or, Bool.true_and, Bool.false_and, Bool.or_true, Bool.or_false, Bool.and_true, Bool.and_false, List.getD_cons_zero, List.getD_cons_succ, cell_int, cell_bool, cell_str, cell_sl, cell_agg, i_int, b_bool, s_str, nb_sl, els_sl, nb_ov, els_ov, cs_pv, cs_agg, Int.toNat_natCast, toNat_sub1, toNat_add1, List.length_map, getD_map, ct, cf, beqd, bned, cp, cn, cnp, cnn, if_pos, if_neg, wrap64, Option.bind_some, Bool.not_true, Bool.not_false, List.isEmpty_nil, List.nil_append, List.length_nil, List.length_cons, Nat.zero_add, h, e]

def hopG (d : D) : Bool := decide (100 < (d.cell 22).els.length) || decide (100 < (d.cell 23).els.length)

theorem hops_ok (k : Nat) (hk : 9223372036854775808 < k) (x1 x2 x3 x4 : Int) (n : Bool) (l : List D) (hl : l.length ≤ 1000) :
    iter k (gatepathref42_Great.b0 (Cl ty tab) k) [.int .i64 0, .pv [.int .u8 x1, .int .u64 x2, .int .u64 x3, .int .i64 x4, .sl 85 n l]] = some [.bool (l.any hopG)] := by
  refine iter_list (F := gatepathref42_Great.b0 (Cl ty tab) k) l (fun i => [.int .i64 i, .pv [.int .u8 x1, .int .u64 x2, .int .u64 x3, .int .i64 x4, .sl 85 n l]]) (fun t => some [.bool (t.any hopG)]) (fun i hi again ha => ?_) (fun again => ?_) k (by omega)
  · unfold gatepathref42_Great.b0
    have hg : l.getD i .undef = l[i] := getD_get hi
    rw [List.any_cons]
    have e : (decide (100 < (l[i].cell 22).els.length) || decide (100 < (l[i].cell 23).els.length)) = hopG l[i] := rfl
    cases h : hopG l[i]
    · rw [h] at e
      simp (disch := omega) only [decide_true, decide_false, if_true, if_false, Bool.false_eq_true, Bool.true_eq_false, eq_self, Bool.true_or, Bool.false_or, Bool.true_and, Bool.false_and, Bool.or_true, Bool.or_false, Bool.and_true, Bool.and_false, List.getD_cons_zero, List.getD_cons_succ, cell_int, cell_bool, cell_str, cell_sl, cell_agg, i_int, b_bool, s_str, nb_sl, els_sl, nb_ov, els_ov, cs_pv, cs_agg, Int.toNat_natCast, toNat_sub1, toNat_add1, List.length_map, getD_map, ct, cf, beqd, bned, cp, cn, cnp, cnn, if_pos, if_neg, wrap64, Option.bind_some, Bool.not_true, Bool.not_false, List.isEmpty_nil, List.nil_append, List.length_nil, List.length_cons, Nat.zero_add, hg, hop_ok, e, Int.natCast_add, Int.natCast_one] at ha ⊢
      exact ha
    · rw [h] at e
      simp (disch := omega) only [decide_true, decide_false, if_true, if_false, Bool.false_eq_true, Bool.true_eq_false, eq_self, Bool.true_or, Bool.false_or, Bool.true_and, Bool.false_and, Bool.or_true, Bool.or_false, Bool.and_true, Bool.and_false, List.getD_cons_zero, List.getD_cons_succ, cell_int, cell_bool, cell_str, cell_sl, cell_agg, i_int, b_bool, s_str, nb_sl, els_sl, nb_ov, els_ov, cs_pv, cs_agg, Int.toNat_natCast, toNat_sub1, toNat_add1, List.length_map, getD_map, ct, cf, beqd, bned, cp, cn, cnp, cnn, if_pos, if_neg, wrap64, Option.bind_some, Bool.not_true, Bool.not_false, List.isEmpty_nil, List.nil_append, List.length_nil, List.length_cons, Nat.zero_add, hg, hop_ok, e]
  · unfold gatepathref42_Great.b0
    simp (disch := omega) only [decide_true, decide_false, if_true, if_false, Bool.false_eq_true, Bool.true_eq_false, eq_self, Bool.true_or, Bool.false_or, Bool.true_and, Bool.false_and, Bool.or_true, Bool.or_false, Bool.and_true, Bool.and_false, List.getD_cons_zero, List.getD_cons_succ, cell_int, cell_bool, cell_str, cell_sl, cell_agg, i_int, b_bool, s_str, nb_sl, els_sl, nb_ov, els_ov, cs_pv, cs_agg, Int.toNat_natCast, toNat_sub1, toNat_add1, List.length_map, getD_map, ct, cf, beqd, bned, cp, cn, cnp, cnn, if_pos, if_neg, wrap64, Option.bind_some, Bool.not_true, Bool.not_false, List.isEmpty_nil, List.nil_append, List.length_nil, List.length_cons, Nat.zero_add, List.any_nil]

theorem hops_ok' (k : Nat) (hk : 9223372036854775808 < k) (x1 x2 x3 x4 : Int) (n : Bool) (l : List D) (hl : l.length ≤ 1000) :
    iter k (gatepathref42_Great.b0_1 (Cl ty tab) k) [.int .i64 0, .pv [.int .u8 x1, .int .u64 x2, .int .u64 x3, .int .i64 x4, .sl 85 n l]] = some [.bool (l.any hopG)] := hops_ok k hk x1 x2 x3 x4 n l hl

def signedG (l : List D) : Bool := (decide (4 < l.length) && decide (l.length ≤ 30)) || (decide (35 < l.length) || l.any hopG)

theorem signedG_ok (x1 x2 x3 x4 : Int) (n : Bool) (l : List D) (hl : l.length ≤ 9223372036854775807) : Cl ty tab 18 [.agg [.int .u8 x1, .int .u64 x2, .int .u64 x3, .int .i64 x4, .sl 85 n l]] = some [.bool (signedG l)] := by
  obtain ⟨k, hk⟩ := rounds
  refine s_gatepathref42_Great k _ _ _ _ _ _ ?_
  unfold gatepathref42_Great signedG
  by_cases h4 : 4 < l.length
  · by_cases h30 : l.length ≤ 30
    · simp (disch := omega) only [decide_true, decide_false, if_true, if_false, Bool.false_eq_true, Bool.true_eq_false, eq_self, Bool.true_or, Bool.false_or, Bool.true_and, Bool.false_and, Bool.or_true, Bool.or_false, Bool.and_true, Bool.and_false, List.getD_cons_zero, List.getD_cons_succ, cell_int, cell_bool, cell_str, cell_sl, cell_agg, i_int, b_bool, s_str, nb_sl, els_sl, nb_ov, els_ov, cs_pv, cs_agg, Int.toNat_natCast, toNat_sub1, toNat_add1, List.length_map, getD_map, ct, cf, beqd, bned, cp, cn, cnp, cnn, if_pos, if_neg, wrap64, Option.bind_some, Bool.not_true, Bool.not_false, List.isEmpty_nil, List.nil_append, List.length_nil, List.length_cons, Nat.zero_add, h4, h30]
    · by_cases h35 : 35 < l.length
      · simp (disch := omega) only [decide_true, decide_false, if_true, if_false, Bool.false_eq_true, Bool.true_eq_false, eq_self, Bool.true_or, Bool.false_or, Bool.true_and, Bool.false_and, Bool.or_true, Bool.or_false, Bool.and_true, Bool.and_false, List.getD_cons_zero, List.getD_cons_succ, cell_int, cell_bool, cell_str, cell_sl, cell_agg, i_int, b_bool, s_str, nb_sl, els_sl, nb_ov, els_ov, cs_pv, cs_agg, Int.toNat_natCast, toNat_sub1, toNat_add1, List.length_map, getD_map, ct, cf, beqd, bned, cp, cn, cnp, cnn, if_pos, if_neg, wrap64, Option.bind_some, Bool.not_true, Bool.not_false, List.isEmpty_nil, List.nil_append, List.length_nil, List.length_cons, Nat.zero_add, h4, h30, h35]
      · simp (disch := omega) only [decide_true, decide_false, if_true, if_false, Bool.false_eq_true, Bool.true_eq_false, eq_self, Bool.true_or, Bool.false_or, Bool.true_and, Bool.false_and, Bool.or_true, Bool.or_false, Bool.and_true, Bool.and_false, List.getD_cons_zero, List.getD_cons_succ, cell_int, cell_bool, cell_str, cell_sl, cell_agg, i_int, b_bool, s_str, nb_sl, els_sl, nb_ov, els_ov, cs_pv, cs_agg, Int.toNat_natCast, toNat_sub1, toNat_add1, List.length_map, getD_map, ct, cf, beqd, bned, cp, cn, cnp, cnn, if_pos, if_neg, wrap64, Option.bind_some, Bool.not_true, Bool.not_false, List.isEmpty_nil, List.nil_append, List.length_nil, List.length_cons, Nat.zero_add, h4, h30, h35, hops_ok k hk _ _ _ _ n l (by omega)]
  · by_cases h35 : 35 < l.length
    · omega
    · simp (disch := omega) only [decide_true, decide_false, if_true, if_false, Bool.false_eq_true, Bool.true_eq_false, eq_self, Bool.true_or, Bool.false_or, Bool.true_and, Bool.false_and, Bool.or_true, Bool.or_false, Bool.and_true, Bool.and_false, List.getD_cons_zero, List.getD_cons_succ, cell_int, cell_bool, cell_str, cell_sl, cell_agg, i_int, b_bool, s_str, nb_sl, els_sl, nb_ov, els_ov, cs_pv, cs_agg, Int.toNat_natCast, toNat_sub1, toNat_add1, List.length_map, getD_map, ct, cf, beqd, bned, cp, cn, cnp, cnn, if_pos, if_neg, wrap64, Option.bind_some, Bool.not_true, Bool.not_false, List.isEmpty_nil, List.nil_append, List.length_nil, List.length_cons, Nat.zero_add, h4, h35, hops_ok' k hk _ _ _ _ n l (by omega)]

def greatJ (d : D) : Bool := decide (100 < (d.cell 4).els.length) || signedG (d.cell 13).els

theorem greatJ_ok (d : D) (hs : (d.cell 13).els.length ≤ 9223372036854775807) : Cl ty tab 7 [.agg (etaCells ks1 d 0)] = some [.bool (greatJ d)] := by
  refine s_gatepathref44_GreatRoute 0 d ?_
  unfold gatepathref44_GreatRoute greatJ
  by_cases h : 100 < (d.cell 4).els.length
  · simp (disch := omega) only [decide_true, decide_false, if_true, if_false, Bool.false_eq_true, Bool.true_eq_false, eq_self, Bool.true_or, Bool.false_or, Bool.true_and, Bool.false_and, Bool.or_true, Bool.or_false, Bool.and_true, Bool.and_false, List.getD_cons_zero, List.getD_cons_succ, cell_int, cell_bool, cell_str, cell_sl, cell_agg, i_int, b_bool, s_str, nb_sl, els_sl, nb_ov, els_ov, cs_pv, cs_agg, Int.toNat_natCast, toNat_sub1, toNat_add1, List.length_map, getD_map, ct, cf, beqd, bned, cp, cn, cnp, cnn, if_pos, if_neg, wrap64, Option.bind_some, Bool.not_true, Bool.not_false, List.isEmpty_nil, List.nil_append, List.length_nil, List.length_cons, Nat.zero_add, h]
  · simp (disch := omega) only [decide_true, decide_false, if_true, if_false, Bool.false_eq_true, Bool.true_eq_false, eq_self, Bool.true_or, Bool.false_or, Bool.true_and, Bool.false_and, Bool.or_true, Bool.or_false, Bool.and_true, Bool.and_false, List.getD_cons_zero, List.getD_cons_succ, cell_int, cell_bool, cell_str, cell_sl, cell_agg, i_int, b_bool, s_str, nb_sl, els_sl, nb_ov, els_ov, cs_pv, cs_agg, Int.toNat_natCast, toNat_sub1, toNat_add1, List.length_map, getD_map, ct, cf, beqd, bned, cp, cn, cnp, cnn, if_pos, if_neg, wrap64, Option.bind_some, Bool.not_true, Bool.not_false, List.isEmpty_nil, List.nil_append, List.length_nil, List.length_cons, Nat.zero_add, h, signedG_ok _ _ _ _ _ _ hs]

theorem slen_of {d : D} (hf : Vk.fits ⟨true, ks0⟩ d = true) (hw : WT ty d) : (d.cell 13).els.length ≤ 9223372036854775807 := by
  obtain ⟨s1, s2⟩ := cells_wt hf hw (j := 13) (s := .sl 85) rfl
  obtain ⟨nb, els, e⟩ := fits_sl s1
  rw [e] at s2 ⊢
  exact s2.els.1

end Go.Proofs.Ytekkbhmlocageaa.Own
