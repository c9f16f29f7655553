import Derived.Test.YtapfhcnigmighaaDiff
namespace Go.Proofs.Ytapfhcnigmighaa.Own
open Go Go.Proofs.Ytapfhcnigmighaa.GD
set_option linter.unusedVariables false
set_option linter.unusedSimpArgs false

/-! keys -/
abbrev kKs : List Sk := [.int .u32, .int .u8, .int .u8, .int .u8, .int .u8, .int .u8, .int .u8, .int .u8, .int .u8, .int .u8, .int .u8, .int .u8, .int .u8, .int .u8, .int .u8, .int .u8, .int .u8, .int .i64]
abbrev kKsE (d : D) (n : Nat) : List D := etaCells ks4 d n
abbrev rKsE (d : D) (n : Nat) : List D := etaCells ks6 d n

/-- the sixteen bytes from cell n on -/
def rootN (d : D) (n : Nat) : List Int := (List.range 16).map fun j => (d.cell (n + j)).i
theorem rootN_len (d : D) (n : Nat) : (rootN d n).length = 16 := by simp [rootN]
theorem rootN_get {d : D} {n i : Nat} (h : i < (rootN d n).length) : (rootN d n)[i] = (d.cell (n + i)).i := by simp [rootN]
theorem rootN_eta (d : D) (n : Nat) : rKsE d n = (rootN d n).map (D.int .u8) := rfl

structure Kg (d : D) : Prop where
  fit : Vk.fits ⟨true, kKs⟩ d = true
  rt : ∀ x, x ∈ rootN d 1 → 0 ≤ x ∧ x < 256

theorem Kg.eta {d : D} (h : Kg d) : D.agg (kKsE d 0) = d := eta_fit h.fit

def ordK (a b : D) : Int := cmpL ((a.cell 0).i :: (rootN a 1 ++ [(a.cell 17).i])) ((b.cell 0).i :: (rootN b 1 ++ [(b.cell 17).i]))
def ltK (a b : D) : Bool := decide (ordK a b < 0)
def goodK (d : D) : Bool := decide (0 ≤ (d.cell 17).i ∧ (d.cell 17).i ≤ 4)

theorem cmpL_app : ∀ (a b : List Int) (s t : List Int), a.length = b.length → cmpL (a ++ s) (b ++ t) = firstN [cmpL a b, cmpL s t]
  | [], [], s, t, _ => by
    show cmpL s t = firstN [0, cmpL s t]
    rw [firstN_cons, if_pos rfl, firstN_one]
  | x :: a, y :: b, s, t, h => by
    simp only [List.cons_append, cmpL_cons]
    rw [cmpL_app a b s t (by simpa using h)]
    by_cases e : sgn x y = 0
    · simp [e]
    · simp [e, firstN]
  | [], _ :: _, _, _, h => by simp at h
  | _ :: _, [], _, _, h => by simp at h

theorem cmpL_single (a b : Int) : cmpL [a] [b] = sgn a b := by
  rw [cmpL_cons]
  by_cases e : sgn a b = 0 <;> simp [e, cmpL]

theorem ordK_first (a b : D) : ordK a b = firstN [sgn (a.cell 0).i (b.cell 0).i, cmpL (rootN a 1) (rootN b 1), sgn (a.cell 17).i (b.cell 17).i] := by
  unfold ordK
  rw [cmpL_cons, cmpL_app _ _ _ _ (by rw [rootN_len, rootN_len]), cmpL_single]
  conv => rhs; rw [firstN_cons]

theorem goodKey_ok (d : D) (h : Kg d) : Cl ty tab 48 [d] = some [.bool (goodK d)] := by
  have := s_diff_goodKey 0 d (r := [.bool (goodK d)]) ?_
  · rwa [h.eta] at this
  unfold diff_goodKey goodK
  by_cases h0 : 0 ≤ (d.cell 17).i
  · simp (disch := omega) only [decide_true, decide_false, if_true, if_false, Bool.false_eq_true, Bool.true_eq_false, eq_self, Bool.true_or, Bool.false_or, Bool.true_and, Bool.false_and, Bool.or_true, Bool.or_false, Bool.and_true, Bool.and_false, List.getD_cons_zero, List.getD_cons_succ, cell_int, cell_bool, cell_str, cell_sl, cell_agg, i_int, b_bool, s_str, nb_sl, els_sl, nb_ov, els_ov, cs_pv, cs_agg, Int.toNat_natCast, toNat_sub1, toNat_add1, List.length_map, getD_map, ct, cf, beqd, bned, cp, cn, cnp, cnn, if_pos, if_neg, wrap64, Option.bind_some, Bool.not_true, Bool.not_false, List.isEmpty_nil, List.nil_append, List.length_nil, List.length_cons, Nat.zero_add, h0, true_and]
  · simp (disch := omega) only [decide_true, decide_false, if_true, if_false, Bool.false_eq_true, Bool.true_eq_false, eq_self, Bool.true_or, Bool.false_or, Bool.true_and, Bool.false_and, Bool.or_true, Bool.or_false, Bool.and_true, Bool.and_false, List.getD_cons_zero, List.getD_cons_succ, cell_int, cell_bool, cell_str, cell_sl, cell_agg, i_int, b_bool, s_str, nb_sl, els_sl, nb_ov, els_ov, cs_pv, cs_agg, Int.toNat_natCast, toNat_sub1, toNat_add1, List.length_map, getD_map, ct, cf, beqd, bned, cp, cn, cnp, cnn, if_pos, if_neg, wrap64, Option.bind_some, Bool.not_true, Bool.not_false, List.isEmpty_nil, List.nil_append, List.length_nil, List.length_cons, Nat.zero_add, h0, false_and]

theorem byKey_ok (a b : D) (ha : Kg a) (hb : Kg b) : Cl ty tab 47 [a, b] = some [.int .i64 (ordK a b)] := by
  have := s_diff_byKey 0 a b (r := [.int .i64 (ordK a b)]) ?_
  · rwa [ha.eta, hb.eta] at this
  unfold diff_byKey
  have hc := cmpB_cmpL (rootN a 1) (rootN b 1) (by rw [rootN_len, rootN_len]) ha.rt hb.rt
  have hb1 : Cl ty tab 34 [.sl 5 false (rKsE a 1), .sl 5 false (rKsE b 1)] = some [.int .i64 (cmpL (rootN a 1) (rootN b 1))] := by
    rw [s_bytes_Compare, rootN_eta, rootN_eta, ← hc]; rfl
  have hor := fun n => or_ok n [sgn (a.cell 0).i (b.cell 0).i, cmpL (rootN a 1) (rootN b 1), sgn (a.cell 17).i (b.cell 17).i] (by simp)
  simp only [List.map_cons, List.map_nil] at hor
  simp (disch := omega) only [decide_true, decide_false, if_true, if_false, Bool.false_eq_true, Bool.true_eq_false, eq_self, Bool.true_or, Bool.false_or, Bool.true_and, Bool.false_and, Bool.or_true, Bool.or_false, Bool.and_true, Bool.and_false, List.getD_cons_zero, List.getD_cons_succ, cell_int, cell_bool, cell_str, cell_sl, cell_agg, i_int, b_bool, s_str, nb_sl, els_sl, nb_ov, els_ov, cs_pv, cs_agg, Int.toNat_natCast, toNat_sub1, toNat_add1, List.length_map, getD_map, ct, cf, beqd, bned, cp, cn, cnp, cnn, if_pos, if_neg, wrap64, Option.bind_some, Bool.not_true, Bool.not_false, List.isEmpty_nil, List.nil_append, List.length_nil, List.length_cons, Nat.zero_add, cmp_u32, cmp_int, hor, hb1]
  rw [← ordK_first]

theorem kEta_get (d : D) {i : Nat} (h : i < 16) : ((kKsE d 0).getD (1 + i) .undef).i = (d.cell (1 + i)).i := by
  have : i = 0 ∨ i = 1 ∨ i = 2 ∨ i = 3 ∨ i = 4 ∨ i = 5 ∨ i = 6 ∨ i = 7 ∨ i = 8 ∨ i = 9 ∨ i = 10 ∨ i = 11 ∨ i = 12 ∨ i = 13 ∨ i = 14 ∨ i = 15 := by omega
  rcases this with rfl | rfl | rfl | rfl | rfl | rfl | rfl | rfl | rfl | rfl | rfl | rfl | rfl | rfl | rfl | rfl <;> rfl

theorem rBeforeKey_ok (a b : D) (ha : Kg a) (hb : Kg b) : Cl ty tab 55 [a, b] = some [.bool (ltK a b)] := by
  obtain ⟨k, hk⟩ := rounds
  have := s_gatepathref34_BeforeKey k a b (r := [.bool (ltK a b)]) ?_
  · rwa [ha.eta, hb.eta] at this
  unfold gatepathref34_BeforeKey ltK
  rw [ordK_first]
  by_cases h0 : (a.cell 0).i = (b.cell 0).i
  case neg =>
    have e : ¬ sgn (a.cell 0).i (b.cell 0).i = 0 := fun h => h0 (sgn_zero.1 h)
    simp (disch := omega) only [decide_true, decide_false, if_true, if_false, Bool.false_eq_true, Bool.true_eq_false, eq_self, Bool.true_or, Bool.false_or, Bool.true_and, Bool.false_and, Bool.or_true, Bool.or_false, Bool.and_true, Bool.and_false, List.getD_cons_zero, List.getD_cons_succ, cell_int, cell_bool, cell_str, cell_sl, cell_agg, i_int, b_bool, s_str, nb_sl, els_sl, nb_ov, els_ov, cs_pv, cs_agg, Int.toNat_natCast, toNat_sub1, toNat_add1, List.length_map, getD_map, ct, cf, beqd, bned, cp, cn, cnp, cnn, if_pos, if_neg, wrap64, Option.bind_some, Bool.not_true, Bool.not_false, List.isEmpty_nil, List.nil_append, List.length_nil, List.length_cons, Nat.zero_add, h0, ne_eq, not_false_eq_true, firstN, e, sgn_lt]
  have ga : (kKsE a 0).getD 17 .undef = .int .i64 (a.cell 17).i := rfl
  have gb : (kKsE b 0).getD 17 .undef = .int .i64 (b.cell 17).i := rfl
  have e1 : etaList ks4 (kKsE a 0) 0 = kKsE a 0 := etaList_eta ..
  have e2 : etaList ks4 (kKsE b 0) 0 = kKsE b 0 := etaList_eta ..
  have loop := iter_ix (F := gatepathref34_BeforeKey.b0 (Cl ty tab) k) 16 (fun i => [.int .i64 i, .pv (kKsE a 0), .pv (kKsE b 0)]) (fun i => some [.bool (decide (firstN [cmpL ((rootN a 1).drop i) ((rootN b 1).drop i), sgn (a.cell 17).i (b.cell 17).i] < 0))])
    (fun i hi again hag => ?_) (fun again => ?_) k (by omega) 0 (by omega)
  · simp (disch := omega) only [decide_true, decide_false, if_true, if_false, Bool.false_eq_true, Bool.true_eq_false, eq_self, Bool.true_or, Bool.false_or, Bool.true_and, Bool.false_and, Bool.or_true, Bool.or_false, Bool.and_true, Bool.and_false, List.getD_cons_zero, List.getD_cons_succ, cell_int, cell_bool, cell_str, cell_sl, cell_agg, i_int, b_bool, s_str, nb_sl, els_sl, nb_ov, els_ov, cs_pv, cs_agg, Int.toNat_natCast, toNat_sub1, toNat_add1, List.length_map, getD_map, ct, cf, beqd, bned, cp, cn, cnp, cnn, if_pos, if_neg, wrap64, Option.bind_some, Bool.not_true, Bool.not_false, List.isEmpty_nil, List.nil_append, List.length_nil, List.length_cons, Nat.zero_add, h0, ne_eq, not_true_eq_false, sgn_self, firstN_cons]
    simp only [List.drop_zero, firstN_cons, Int.natCast_zero] at loop
    exact loop
  · unfold gatepathref34_BeforeKey.b0
    have la : i < (rootN a 1).length := by rw [rootN_len]; exact hi
    have lb : i < (rootN b 1).length := by rw [rootN_len]; exact hi
    rw [List.drop_eq_getElem_cons la, List.drop_eq_getElem_cons lb, rootN_get, rootN_get, cmpL_cons]
    have q1 := kEta_get a hi
    have q2 := kEta_get b hi
    by_cases h : (a.cell (1 + i)).i = (b.cell (1 + i)).i
    · have e : sgn (a.cell (1 + i)).i (b.cell (1 + i)).i = 0 := sgn_zero.2 h
      simp (disch := omega) only [decide_true, decide_false, if_true, if_false, Bool.false_eq_true, Bool.true_eq_false, eq_self, Bool.true_or, Bool.false_or, Bool.true_and, Bool.false_and, Bool.or_true, Bool.or_false, Bool.and_true, Bool.and_false, List.getD_cons_zero, List.getD_cons_succ, cell_int, cell_bool, cell_str, cell_sl, cell_agg, i_int, b_bool, s_str, nb_sl, els_sl, nb_ov, els_ov, cs_pv, cs_agg, Int.toNat_natCast, toNat_sub1, toNat_add1, List.length_map, getD_map, ct, cf, beqd, bned, cp, cn, cnp, cnn, if_pos, if_neg, wrap64, Option.bind_some, Bool.not_true, Bool.not_false, List.isEmpty_nil, List.nil_append, List.length_nil, List.length_cons, Nat.zero_add, e1, e2, q1, q2, h, sgn_self, ne_eq, not_true_eq_false, Int.natCast_add, Int.natCast_one] at hag ⊢
      exact hag
    · have e : ¬ sgn (a.cell (1 + i)).i (b.cell (1 + i)).i = 0 := fun x => h (sgn_zero.1 x)
      simp (disch := omega) only [decide_true, decide_false, if_true, if_false, Bool.false_eq_true, Bool.true_eq_false, eq_self, Bool.true_or, Bool.false_or, Bool.true_and, Bool.false_and, Bool.or_true, Bool.or_false, Bool.and_true, Bool.and_false, List.getD_cons_zero, List.getD_cons_succ, cell_int, cell_bool, cell_str, cell_sl, cell_agg, i_int, b_bool, s_str, nb_sl, els_sl, nb_ov, els_ov, cs_pv, cs_agg, Int.toNat_natCast, toNat_sub1, toNat_add1, List.length_map, getD_map, ct, cf, beqd, bned, cp, cn, cnp, cnn, if_pos, if_neg, wrap64, Option.bind_some, Bool.not_true, Bool.not_false, List.isEmpty_nil, List.nil_append, List.length_nil, List.length_cons, Nat.zero_add, e1, e2, q1, q2, h, e, ne_eq, not_false_eq_true, firstN_cons, sgn_lt]
  · unfold gatepathref34_BeforeKey.b0
    have l1 : (rootN a 1).drop 16 = [] := List.drop_eq_nil_of_le (by rw [rootN_len]; omega)
    have l2 : (rootN b 1).drop 16 = [] := List.drop_eq_nil_of_le (by rw [rootN_len]; omega)
    have q : ∀ s : Int, firstN [cmpL [] [], s] = s := fun s => by
      show firstN [0, s] = s
      rw [firstN_cons, if_pos rfl, firstN_one]
    rw [l1, l2, q]
    simp (disch := omega) only [decide_true, decide_false, if_true, if_false, Bool.false_eq_true, Bool.true_eq_false, eq_self, Bool.true_or, Bool.false_or, Bool.true_and, Bool.false_and, Bool.or_true, Bool.or_false, Bool.and_true, Bool.and_false, List.getD_cons_zero, List.getD_cons_succ, cell_int, cell_bool, cell_str, cell_sl, cell_agg, i_int, b_bool, s_str, nb_sl, els_sl, nb_ov, els_ov, cs_pv, cs_agg, Int.toNat_natCast, toNat_sub1, toNat_add1, List.length_map, getD_map, ct, cf, beqd, bned, cp, cn, cnp, cnn, if_pos, if_neg, wrap64, Option.bind_some, Bool.not_true, Bool.not_false, List.isEmpty_nil, List.nil_append, List.length_nil, List.length_cons, Nat.zero_add, ga, gb, sgn_lt]

/-! paths -/
structure Pg (d : D) : Prop where
  fit : Vk.fits ⟨true, [.int .u32, .sl 51]⟩ d = true
  els : ∃ L : List Int, (d.cell 1).els = L.map (D.int .u32) ∧ ∀ x, x ∈ L → 0 ≤ x ∧ x < 4294967296
  len : (d.cell 1).els.length ≤ 9223372036854775807

theorem Pg.eta {d : D} (h : Pg d) : D.agg [.int .u32 (d.cell 0).i, .sl 51 (d.cell 1).nb (d.cell 1).els] = d := eta_fit h.fit

def custP (d : D) : Int := (d.cell 0).i
def ltP (a b : D) : Bool := decide (custP a < custP b)

end Go.Proofs.Ytapfhcnigmighaa.Own
