import Derived.Test.YtmfhhbiaghejjaaR
namespace Go.Proofs.Ytmfhhbiaghejjaa.Own
open Go Go.Proofs.Ytmfhhbiaghejjaa.GD
set_option linter.unusedVariables false
set_option linter.unusedSimpArgs false

/-- a record -/
def Fit (d : D) : Prop := Vk.fits ⟨true, ks0⟩ d = true
def uri (d : D) : List UInt8 := ((d.cell 0).s).toList
def num (d : D) : Int := (d.cell 1).i
def hsh (d : D) : List D := etaCells ks1 d 2
def frm (d : D) : Int := (d.cell 34).i
def til (d : D) : Int := (d.cell 35).i
def seen (d : D) : Int := (d.cell 36).i

structure Fine (l : List D) : Prop where
  len : l.length ≤ 9223372036854775807
  fit : ∀ d, d ∈ l → Fit d

theorem Fine.eta {l : List D} (h : Fine l) {i : Nat} (hi : i < l.length) : D.agg (etaCells ks0 l[i] 0) = l[i] := eta_fit (h.fit _ (List.getElem_mem hi))

theorem p0 (d : D) : (etaCells ks0 d 0).getD 0 .undef = .str (d.cell 0).s := rfl
theorem p34 (d : D) : (etaCells ks0 d 0).getD 34 .undef = .int .i64 (frm d) := rfl
theorem p35 (d : D) : (etaCells ks0 d 0).getD 35 .undef = .int .i64 (til d) := rfl
theorem p36 (d : D) : (etaCells ks0 d 0).getD 36 .undef = .int .i64 (seen d) := rfl

def mom (t : Int) : Bool := decide (0 ≤ t ∧ t ≤ 1099511627776)

theorem moment_ok (t : Int) : Cl ty tab 35 [.int .i64 t] = some [.bool (mom t)] := by
  refine s_fresh_moment 0 _ ?_
  unfold fresh_moment mom
  by_cases h : 0 ≤ t
  · simp (disch := omega) only [decide_true, decide_false, if_true, if_false, Bool.false_eq_true, Bool.true_eq_false, eq_self, Bool.true_or, Bool.false_or, Bool.true_and, Bool.false_and, Bool.or_true, Bool.or_false, Bool.and_true, Bool.and_false, List.getD_cons_zero, List.getD_cons_succ, cell_int, cell_bool, cell_str, cell_sl, cell_agg, i_int, b_bool, s_str, nb_sl, els_sl, nb_ov, els_ov, cs_pv, cs_agg, Int.toNat_natCast, toNat_sub1, toNat_add1, List.length_map, getD_map, ct, cf, beqd, bned, cp, cn, cnp, cnn, if_pos, if_neg, wrap64, Option.bind_some, Bool.not_true, Bool.not_false, List.isEmpty_nil, List.nil_append, List.length_nil, List.length_cons, Nat.zero_add, h, true_and]
  · simp (disch := omega) only [decide_true, decide_false, if_true, if_false, Bool.false_eq_true, Bool.true_eq_false, eq_self, Bool.true_or, Bool.false_or, Bool.true_and, Bool.false_and, Bool.or_true, Bool.or_false, Bool.and_true, Bool.and_false, List.getD_cons_zero, List.getD_cons_succ, cell_int, cell_bool, cell_str, cell_sl, cell_agg, i_int, b_bool, s_str, nb_sl, els_sl, nb_ov, els_ov, cs_pv, cs_agg, Int.toNat_natCast, toNat_sub1, toNat_add1, List.length_map, getD_map, ct, cf, beqd, bned, cp, cn, cnp, cnn, if_pos, if_neg, wrap64, Option.bind_some, Bool.not_true, Bool.not_false, List.isEmpty_nil, List.nil_append, List.length_nil, List.length_cons, Nat.zero_add, h, false_and]

/-- is a record valid -/
def rightF (d : D) : Bool :=
  decide (1 ≤ (d.cell 0).s.size ∧ (d.cell 0).s.size ≤ 200) && ((d.cell 0).s.data.toList.all fun c => decide (33 ≤ c.toNat ∧ c.toNat ≤ 126)) && (mom (frm d) && mom (til d) && decide (frm d ≤ til d) && mom (seen d))

theorem right_ok (d : D) (hd : Fit d) : Cl ty tab 40 [d] = some [.bool (rightF d)] := by
  obtain ⟨k, hk⟩ := rounds
  have := s_fresh_right k d (r := [.bool (rightF d)]) ?_
  · rwa [eta_fit hd] at this
  unfold fresh_right rightF
  by_cases h1 : (d.cell 0).s.size = 0
  · simp (disch := omega) only [decide_true, decide_false, if_true, if_false, Bool.false_eq_true, Bool.true_eq_false, eq_self, Bool.true_or, Bool.false_or, Bool.true_and, Bool.false_and, Bool.or_true, Bool.or_false, Bool.and_true, Bool.and_false, List.getD_cons_zero, List.getD_cons_succ, cell_int, cell_bool, cell_str, cell_sl, cell_agg, i_int, b_bool, s_str, nb_sl, els_sl, nb_ov, els_ov, cs_pv, cs_agg, Int.toNat_natCast, toNat_sub1, toNat_add1, List.length_map, getD_map, ct, cf, beqd, bned, cp, cn, cnp, cnn, if_pos, if_neg, wrap64, Option.bind_some, Bool.not_true, Bool.not_false, List.isEmpty_nil, List.nil_append, List.length_nil, List.length_cons, Nat.zero_add, h1, dF]
  by_cases h2 : 200 < (d.cell 0).s.size
  · simp (disch := omega) only [decide_true, decide_false, if_true, if_false, Bool.false_eq_true, Bool.true_eq_false, eq_self, Bool.true_or, Bool.false_or, Bool.true_and, Bool.false_and, Bool.or_true, Bool.or_false, Bool.and_true, Bool.and_false, List.getD_cons_zero, List.getD_cons_succ, cell_int, cell_bool, cell_str, cell_sl, cell_agg, i_int, b_bool, s_str, nb_sl, els_sl, nb_ov, els_ov, cs_pv, cs_agg, Int.toNat_natCast, toNat_sub1, toNat_add1, List.length_map, getD_map, ct, cf, beqd, bned, cp, cn, cnp, cnn, if_pos, if_neg, wrap64, Option.bind_some, Bool.not_true, Bool.not_false, List.isEmpty_nil, List.nil_append, List.length_nil, List.length_cons, Nat.zero_add, dF]
  have hsz : (d.cell 0).s.data.toList.length = (d.cell 0).s.size := rfl
  simp (disch := omega) only [decide_true, decide_false, if_true, if_false, Bool.false_eq_true, Bool.true_eq_false, eq_self, Bool.true_or, Bool.false_or, Bool.true_and, Bool.false_and, Bool.or_true, Bool.or_false, Bool.and_true, Bool.and_false, List.getD_cons_zero, List.getD_cons_succ, cell_int, cell_bool, cell_str, cell_sl, cell_agg, i_int, b_bool, s_str, nb_sl, els_sl, nb_ov, els_ov, cs_pv, cs_agg, Int.toNat_natCast, toNat_sub1, toNat_add1, List.length_map, getD_map, ct, cf, beqd, bned, cp, cn, cnp, cnn, if_pos, if_neg, wrap64, Option.bind_some, Bool.not_true, Bool.not_false, List.isEmpty_nil, List.nil_append, List.length_nil, List.length_cons, Nat.zero_add, dT]
  have := iter_list (F := fresh_right.b0 (Cl ty tab) k d) (d.cell 0).s.data.toList (fun i => [.int .i64 i, .pv (etaCells ks0 d 0)]) (fun t => some [.bool ((t.all fun c => decide (33 ≤ c.toNat ∧ c.toNat ≤ 126)) && (mom (frm d) && mom (til d) && decide (frm d ≤ til d) && mom (seen d)))]) (fun i hi again ha => ?_) (fun again => ?_) k (by omega)
  · exact this
  · unfold fresh_right.b0
    rw [List.all_cons]
    by_cases h3 : (d.cell 0).s.data.toList[i].toNat < 33
    · simp (disch := omega) only [decide_true, decide_false, if_true, if_false, Bool.false_eq_true, Bool.true_eq_false, eq_self, Bool.true_or, Bool.false_or, Bool.true_and, Bool.false_and, Bool.or_true, Bool.or_false, Bool.and_true, Bool.and_false, List.getD_cons_zero, List.getD_cons_succ, cell_int, cell_bool, cell_str, cell_sl, cell_agg, i_int, b_bool, s_str, nb_sl, els_sl, nb_ov, els_ov, cs_pv, cs_agg, Int.toNat_natCast, toNat_sub1, toNat_add1, List.length_map, getD_map, ct, cf, beqd, bned, cp, cn, cnp, cnn, if_pos, if_neg, wrap64, Option.bind_some, Bool.not_true, Bool.not_false, List.isEmpty_nil, List.nil_append, List.length_nil, List.length_cons, Nat.zero_add, dF]
    · by_cases h4 : 126 < (d.cell 0).s.data.toList[i].toNat
      · simp (disch := omega) only [decide_true, decide_false, if_true, if_false, Bool.false_eq_true, Bool.true_eq_false, eq_self, Bool.true_or, Bool.false_or, Bool.true_and, Bool.false_and, Bool.or_true, Bool.or_false, Bool.and_true, Bool.and_false, List.getD_cons_zero, List.getD_cons_succ, cell_int, cell_bool, cell_str, cell_sl, cell_agg, i_int, b_bool, s_str, nb_sl, els_sl, nb_ov, els_ov, cs_pv, cs_agg, Int.toNat_natCast, toNat_sub1, toNat_add1, List.length_map, getD_map, ct, cf, beqd, bned, cp, cn, cnp, cnn, if_pos, if_neg, wrap64, Option.bind_some, Bool.not_true, Bool.not_false, List.isEmpty_nil, List.nil_append, List.length_nil, List.length_cons, Nat.zero_add, dF]
      · simp (disch := omega) only [decide_true, decide_false, if_true, if_false, Bool.false_eq_true, Bool.true_eq_false, eq_self, Bool.true_or, Bool.false_or, Bool.true_and, Bool.false_and, Bool.or_true, Bool.or_false, Bool.and_true, Bool.and_false, List.getD_cons_zero, List.getD_cons_succ, cell_int, cell_bool, cell_str, cell_sl, cell_agg, i_int, b_bool, s_str, nb_sl, els_sl, nb_ov, els_ov, cs_pv, cs_agg, Int.toNat_natCast, toNat_sub1, toNat_add1, List.length_map, getD_map, ct, cf, beqd, bned, cp, cn, cnp, cnn, if_pos, if_neg, wrap64, Option.bind_some, Bool.not_true, Bool.not_false, List.isEmpty_nil, List.nil_append, List.length_nil, List.length_cons, Nat.zero_add, dT, etaList_eta]
        exact ha
  · unfold fresh_right.b0
    simp (disch := omega) only [decide_true, decide_false, if_true, if_false, Bool.false_eq_true, Bool.true_eq_false, eq_self, Bool.true_or, Bool.false_or, Bool.true_and, Bool.false_and, Bool.or_true, Bool.or_false, Bool.and_true, Bool.and_false, List.getD_cons_zero, List.getD_cons_succ, cell_int, cell_bool, cell_str, cell_sl, cell_agg, i_int, b_bool, s_str, nb_sl, els_sl, nb_ov, els_ov, cs_pv, cs_agg, Int.toNat_natCast, toNat_sub1, toNat_add1, List.length_map, getD_map, ct, cf, beqd, bned, cp, cn, cnp, cnn, if_pos, if_neg, wrap64, Option.bind_some, Bool.not_true, Bool.not_false, List.isEmpty_nil, List.nil_append, List.length_nil, List.length_cons, Nat.zero_add, p34, p35, p36, moment_ok, List.all_nil]
    cases mom (frm d)
    · simp (disch := omega) only [decide_true, decide_false, if_true, if_false, Bool.false_eq_true, Bool.true_eq_false, eq_self, Bool.true_or, Bool.false_or, Bool.true_and, Bool.false_and, Bool.or_true, Bool.or_false, Bool.and_true, Bool.and_false, List.getD_cons_zero, List.getD_cons_succ, cell_int, cell_bool, cell_str, cell_sl, cell_agg, i_int, b_bool, s_str, nb_sl, els_sl, nb_ov, els_ov, cs_pv, cs_agg, Int.toNat_natCast, toNat_sub1, toNat_add1, List.length_map, getD_map, ct, cf, beqd, bned, cp, cn, cnp, cnn, if_pos, if_neg, wrap64, Option.bind_some, Bool.not_true, Bool.not_false, List.isEmpty_nil, List.nil_append, List.length_nil, List.length_cons, Nat.zero_add]
    · cases mom (til d)
      · simp (disch := omega) only [decide_true, decide_false, if_true, if_false, Bool.false_eq_true, Bool.true_eq_false, eq_self, Bool.true_or, Bool.false_or, Bool.true_and, Bool.false_and, Bool.or_true, Bool.or_false, Bool.and_true, Bool.and_false, List.getD_cons_zero, List.getD_cons_succ, cell_int, cell_bool, cell_str, cell_sl, cell_agg, i_int, b_bool, s_str, nb_sl, els_sl, nb_ov, els_ov, cs_pv, cs_agg, Int.toNat_natCast, toNat_sub1, toNat_add1, List.length_map, getD_map, ct, cf, beqd, bned, cp, cn, cnp, cnn, if_pos, if_neg, wrap64, Option.bind_some, Bool.not_true, Bool.not_false, List.isEmpty_nil, List.nil_append, List.length_nil, List.length_cons, Nat.zero_add]
      · by_cases h5 : frm d ≤ til d
        · simp (disch := omega) only [decide_true, decide_false, if_true, if_false, Bool.false_eq_true, Bool.true_eq_false, eq_self, Bool.true_or, Bool.false_or, Bool.true_and, Bool.false_and, Bool.or_true, Bool.or_false, Bool.and_true, Bool.and_false, List.getD_cons_zero, List.getD_cons_succ, cell_int, cell_bool, cell_str, cell_sl, cell_agg, i_int, b_bool, s_str, nb_sl, els_sl, nb_ov, els_ov, cs_pv, cs_agg, Int.toNat_natCast, toNat_sub1, toNat_add1, List.length_map, getD_map, ct, cf, beqd, bned, cp, cn, cnp, cnn, if_pos, if_neg, wrap64, Option.bind_some, Bool.not_true, Bool.not_false, List.isEmpty_nil, List.nil_append, List.length_nil, List.length_cons, Nat.zero_add, dT]
        · simp (disch := omega) only [decide_true, decide_false, if_true, if_false, Bool.false_eq_true, Bool.true_eq_false, eq_self, Bool.true_or, Bool.false_or, Bool.true_and, Bool.false_and, Bool.or_true, Bool.or_false, Bool.and_true, Bool.and_false, List.getD_cons_zero, List.getD_cons_succ, cell_int, cell_bool, cell_str, cell_sl, cell_agg, i_int, b_bool, s_str, nb_sl, els_sl, nb_ov, els_ov, cs_pv, cs_agg, Int.toNat_natCast, toNat_sub1, toNat_add1, List.length_map, getD_map, ct, cf, beqd, bned, cp, cn, cnp, cnn, if_pos, if_neg, wrap64, Option.bind_some, Bool.not_true, Bool.not_false, List.isEmpty_nil, List.nil_append, List.length_nil, List.length_cons, Nat.zero_add, dF]

/-- are the records valid and in order -/
def goodF (prev : Option (List UInt8)) : List D → Bool
  | [] => true
  | d :: t => rightF d && (match prev with | some u => Op.bytesLess u (uri d) | none => true) && goodF (some (uri d)) t

def prevU (l : List D) (i : Nat) : Option (List UInt8) := match i with | 0 => none | j + 1 => (l[j]?).map uri

def checkF (l : List D) : Int := if 200 < l.length then 4 else if goodF none l = true then 0 else 8

theorem le_not (a b : List UInt8) : (Op.bytesLess a b || a == b) = !Op.bytesLess b a := by
  cases h1 : Op.bytesLess a b with
  | true => rw [bl_asymm h1]; rfl
  | false =>
    by_cases h2 : a = b
    · subst h2; rw [bl_irrefl]; simp
    · cases h3 : Op.bytesLess b a with
      | true => simp [h2]
      | false => exact absurd (bl_tri a b h1 h3) h2

theorem check_ok (n : Bool) (l : List D) (hl : Fine l) : Cl ty tab 19 [.sl 47 n l] = some [.int .i64 (checkF l)] := by
  have hl1 := hl.len
  obtain ⟨k, hk⟩ := rounds
  refine s_fresh_Check k _ _ ?_
  unfold fresh_Check checkF
  by_cases h1 : 200 < l.length
  · simp (disch := omega) only [decide_true, decide_false, if_true, if_false, Bool.false_eq_true, Bool.true_eq_false, eq_self, Bool.true_or, Bool.false_or, Bool.true_and, Bool.false_and, Bool.or_true, Bool.or_false, Bool.and_true, Bool.and_false, List.getD_cons_zero, List.getD_cons_succ, cell_int, cell_bool, cell_str, cell_sl, cell_agg, i_int, b_bool, s_str, nb_sl, els_sl, nb_ov, els_ov, cs_pv, cs_agg, Int.toNat_natCast, toNat_sub1, toNat_add1, List.length_map, getD_map, ct, cf, beqd, bned, cp, cn, cnp, cnn, if_pos, if_neg, wrap64, Option.bind_some, Bool.not_true, Bool.not_false, List.isEmpty_nil, List.nil_append, List.length_nil, List.length_cons, Nat.zero_add]
  simp (disch := omega) only [decide_true, decide_false, if_true, if_false, Bool.false_eq_true, Bool.true_eq_false, eq_self, Bool.true_or, Bool.false_or, Bool.true_and, Bool.false_and, Bool.or_true, Bool.or_false, Bool.and_true, Bool.and_false, List.getD_cons_zero, List.getD_cons_succ, cell_int, cell_bool, cell_str, cell_sl, cell_agg, i_int, b_bool, s_str, nb_sl, els_sl, nb_ov, els_ov, cs_pv, cs_agg, Int.toNat_natCast, toNat_sub1, toNat_add1, List.length_map, getD_map, ct, cf, beqd, bned, cp, cn, cnp, cnn, if_pos, if_neg, wrap64, Option.bind_some, Bool.not_true, Bool.not_false, List.isEmpty_nil, List.nil_append, List.length_nil, List.length_cons, Nat.zero_add]
  refine iter_ix (F := fresh_Check.b0 (Cl ty tab) k l) l.length (fun i => [.int .i64 i]) (fun i => some [.int .i64 (if goodF (prevU l i) (l.drop i) = true then 0 else 8)]) (fun i hi again ha => ?_) (fun again => ?_) k (by omega) 0 (by omega)
  · have hr := right_ok l[i] (hl.fit _ (List.getElem_mem hi))
    rw [List.drop_eq_getElem_cons hi]
    unfold goodF fresh_Check.b0
    have ep : prevU l (i + 1) = some (uri l[i]) := by simp [prevU, hi]
    rw [ep] at ha
    simp (disch := omega) only [decide_true, decide_false, if_true, if_false, Bool.false_eq_true, Bool.true_eq_false, eq_self, Bool.true_or, Bool.false_or, Bool.true_and, Bool.false_and, Bool.or_true, Bool.or_false, Bool.and_true, Bool.and_false, List.getD_cons_zero, List.getD_cons_succ, cell_int, cell_bool, cell_str, cell_sl, cell_agg, i_int, b_bool, s_str, nb_sl, els_sl, nb_ov, els_ov, cs_pv, cs_agg, Int.toNat_natCast, toNat_sub1, toNat_add1, List.length_map, getD_map, ct, cf, beqd, bned, cp, cn, cnp, cnn, if_pos, if_neg, wrap64, Option.bind_some, Bool.not_true, Bool.not_false, List.isEmpty_nil, List.nil_append, List.length_nil, List.length_cons, Nat.zero_add, getD_get, hl.eta hi, hr]
    cases rightF l[i]
    · simp (disch := omega) only [decide_true, decide_false, if_true, if_false, Bool.false_eq_true, Bool.true_eq_false, eq_self, Bool.true_or, Bool.false_or, Bool.true_and, Bool.false_and, Bool.or_true, Bool.or_false, Bool.and_true, Bool.and_false, List.getD_cons_zero, List.getD_cons_succ, cell_int, cell_bool, cell_str, cell_sl, cell_agg, i_int, b_bool, s_str, nb_sl, els_sl, nb_ov, els_ov, cs_pv, cs_agg, Int.toNat_natCast, toNat_sub1, toNat_add1, List.length_map, getD_map, ct, cf, beqd, bned, cp, cn, cnp, cnn, if_pos, if_neg, wrap64, Option.bind_some, Bool.not_true, Bool.not_false, List.isEmpty_nil, List.nil_append, List.length_nil, List.length_cons, Nat.zero_add]
    cases i with
    | zero =>
      simp (disch := omega) only [decide_true, decide_false, if_true, if_false, Bool.false_eq_true, Bool.true_eq_false, eq_self, Bool.true_or, Bool.false_or, Bool.true_and, Bool.false_and, Bool.or_true, Bool.or_false, Bool.and_true, Bool.and_false, List.getD_cons_zero, List.getD_cons_succ, cell_int, cell_bool, cell_str, cell_sl, cell_agg, i_int, b_bool, s_str, nb_sl, els_sl, nb_ov, els_ov, cs_pv, cs_agg, Int.toNat_natCast, toNat_sub1, toNat_add1, List.length_map, getD_map, ct, cf, beqd, bned, cp, cn, cnp, cnn, if_pos, if_neg, wrap64, Option.bind_some, Bool.not_true, Bool.not_false, List.isEmpty_nil, List.nil_append, List.length_nil, List.length_cons, Nat.zero_add, prevU] at ha ⊢
      exact ha
    | succ j =>
      have e1 : prevU l (j + 1) = some (uri l[j]) := by simp [prevU, show j < l.length by omega]
      have e2 : (Op.bytesLess ((l[j + 1].cell 0).s).toList ((l[j].cell 0).s).toList || ((l[j + 1].cell 0).s).toList == ((l[j].cell 0).s).toList) = !Op.bytesLess (uri l[j]) (uri l[j + 1]) := le_not _ _
      rw [e1]
      simp (disch := omega) only [decide_true, decide_false, if_true, if_false, Bool.false_eq_true, Bool.true_eq_false, eq_self, Bool.true_or, Bool.false_or, Bool.true_and, Bool.false_and, Bool.or_true, Bool.or_false, Bool.and_true, Bool.and_false, List.getD_cons_zero, List.getD_cons_succ, cell_int, cell_bool, cell_str, cell_sl, cell_agg, i_int, b_bool, s_str, nb_sl, els_sl, nb_ov, els_ov, cs_pv, cs_agg, Int.toNat_natCast, toNat_sub1, toNat_add1, List.length_map, getD_map, ct, cf, beqd, bned, cp, cn, cnp, cnn, if_pos, if_neg, wrap64, Option.bind_some, Bool.not_true, Bool.not_false, List.isEmpty_nil, List.nil_append, List.length_nil, List.length_cons, Nat.zero_add, Int.natCast_add, Int.natCast_one, Int.add_sub_cancel, getD_get, e2] at ha ⊢
      cases Op.bytesLess (uri l[j]) (uri l[j + 1])
      · simp (disch := omega) only [decide_true, decide_false, if_true, if_false, Bool.false_eq_true, Bool.true_eq_false, eq_self, Bool.true_or, Bool.false_or, Bool.true_and, Bool.false_and, Bool.or_true, Bool.or_false, Bool.and_true, Bool.and_false, List.getD_cons_zero, List.getD_cons_succ, cell_int, cell_bool, cell_str, cell_sl, cell_agg, i_int, b_bool, s_str, nb_sl, els_sl, nb_ov, els_ov, cs_pv, cs_agg, Int.toNat_natCast, toNat_sub1, toNat_add1, List.length_map, getD_map, ct, cf, beqd, bned, cp, cn, cnp, cnn, if_pos, if_neg, wrap64, Option.bind_some, Bool.not_true, Bool.not_false, List.isEmpty_nil, List.nil_append, List.length_nil, List.length_cons, Nat.zero_add]
      · simp (disch := omega) only [decide_true, decide_false, if_true, if_false, Bool.false_eq_true, Bool.true_eq_false, eq_self, Bool.true_or, Bool.false_or, Bool.true_and, Bool.false_and, Bool.or_true, Bool.or_false, Bool.and_true, Bool.and_false, List.getD_cons_zero, List.getD_cons_succ, cell_int, cell_bool, cell_str, cell_sl, cell_agg, i_int, b_bool, s_str, nb_sl, els_sl, nb_ov, els_ov, cs_pv, cs_agg, Int.toNat_natCast, toNat_sub1, toNat_add1, List.length_map, getD_map, ct, cf, beqd, bned, cp, cn, cnp, cnn, if_pos, if_neg, wrap64, Option.bind_some, Bool.not_true, Bool.not_false, List.isEmpty_nil, List.nil_append, List.length_nil, List.length_cons, Nat.zero_add]
        exact ha
  · rw [List.drop_length]
    unfold goodF fresh_Check.b0
    simp (disch := omega) only [decide_true, decide_false, if_true, if_false, Bool.false_eq_true, Bool.true_eq_false, eq_self, Bool.true_or, Bool.false_or, Bool.true_and, Bool.false_and, Bool.or_true, Bool.or_false, Bool.and_true, Bool.and_false, List.getD_cons_zero, List.getD_cons_succ, cell_int, cell_bool, cell_str, cell_sl, cell_agg, i_int, b_bool, s_str, nb_sl, els_sl, nb_ov, els_ov, cs_pv, cs_agg, Int.toNat_natCast, toNat_sub1, toNat_add1, List.length_map, getD_map, ct, cf, beqd, bned, cp, cn, cnp, cnn, if_pos, if_neg, wrap64, Option.bind_some, Bool.not_true, Bool.not_false, List.isEmpty_nil, List.nil_append, List.length_nil, List.length_cons, Nat.zero_add]

def Asc (l : List D) : Prop := l.Pairwise fun x y => Op.bytesLess (uri x) (uri y) = true

theorem nan_ok (s : ByteArray) : Cl ty tab 45 [.str s] = some [.bool false] := by
  refine s_cmp_isNaN 0 _ ?_
  unfold cmp_isNaN
  simp

def cmpS (a b : List UInt8) : Int := if Op.bytesLess a b = true then -1 else if Op.bytesLess b a = true then 1 else 0

theorem cmp_ok (a b : ByteArray) : Cl ty tab 32 [.str a, .str b] = some [.int .i64 (cmpS a.toList b.toList)] := by
  refine s_cmp_Compare 0 _ _ ?_
  unfold cmp_Compare cmpS
  rw [le_not]
  simp (disch := omega) only [decide_true, decide_false, if_true, if_false, Bool.false_eq_true, Bool.true_eq_false, eq_self, Bool.true_or, Bool.false_or, Bool.true_and, Bool.false_and, Bool.or_true, Bool.or_false, Bool.and_true, Bool.and_false, List.getD_cons_zero, List.getD_cons_succ, cell_int, cell_bool, cell_str, cell_sl, cell_agg, i_int, b_bool, s_str, nb_sl, els_sl, nb_ov, els_ov, cs_pv, cs_agg, Int.toNat_natCast, toNat_sub1, toNat_add1, List.length_map, getD_map, ct, cf, beqd, bned, cp, cn, cnp, cnn, if_pos, if_neg, wrap64, Option.bind_some, Bool.not_true, Bool.not_false, List.isEmpty_nil, List.nil_append, List.length_nil, List.length_cons, Nat.zero_add, nan_ok]
  cases Op.bytesLess a.toList b.toList
  · cases Op.bytesLess b.toList a.toList
    · simp (disch := omega) only [decide_true, decide_false, if_true, if_false, Bool.false_eq_true, Bool.true_eq_false, eq_self, Bool.true_or, Bool.false_or, Bool.true_and, Bool.false_and, Bool.or_true, Bool.or_false, Bool.and_true, Bool.and_false, List.getD_cons_zero, List.getD_cons_succ, cell_int, cell_bool, cell_str, cell_sl, cell_agg, i_int, b_bool, s_str, nb_sl, els_sl, nb_ov, els_ov, cs_pv, cs_agg, Int.toNat_natCast, toNat_sub1, toNat_add1, List.length_map, getD_map, ct, cf, beqd, bned, cp, cn, cnp, cnn, if_pos, if_neg, wrap64, Option.bind_some, Bool.not_true, Bool.not_false, List.isEmpty_nil, List.nil_append, List.length_nil, List.length_cons, Nat.zero_add]
    · simp (disch := omega) only [decide_true, decide_false, if_true, if_false, Bool.false_eq_true, Bool.true_eq_false, eq_self, Bool.true_or, Bool.false_or, Bool.true_and, Bool.false_and, Bool.or_true, Bool.or_false, Bool.and_true, Bool.and_false, List.getD_cons_zero, List.getD_cons_succ, cell_int, cell_bool, cell_str, cell_sl, cell_agg, i_int, b_bool, s_str, nb_sl, els_sl, nb_ov, els_ov, cs_pv, cs_agg, Int.toNat_natCast, toNat_sub1, toNat_add1, List.length_map, getD_map, ct, cf, beqd, bned, cp, cn, cnp, cnn, if_pos, if_neg, wrap64, Option.bind_some, Bool.not_true, Bool.not_false, List.isEmpty_nil, List.nil_append, List.length_nil, List.length_cons, Nat.zero_add]
  · simp (disch := omega) only [decide_true, decide_false, if_true, if_false, Bool.false_eq_true, Bool.true_eq_false, eq_self, Bool.true_or, Bool.false_or, Bool.true_and, Bool.false_and, Bool.or_true, Bool.or_false, Bool.and_true, Bool.and_false, List.getD_cons_zero, List.getD_cons_succ, cell_int, cell_bool, cell_str, cell_sl, cell_agg, i_int, b_bool, s_str, nb_sl, els_sl, nb_ov, els_ov, cs_pv, cs_agg, Int.toNat_natCast, toNat_sub1, toNat_add1, List.length_map, getD_map, ct, cf, beqd, bned, cp, cn, cnp, cnn, if_pos, if_neg, wrap64, Option.bind_some, Bool.not_true, Bool.not_false, List.isEmpty_nil, List.nil_append, List.length_nil, List.length_cons, Nat.zero_add]

/-! joining two records -/
def cmpt (x y : D) : Bool := eqCells (hsh x) (hsh y) && ((frm x == frm y) && (til x == til y))
def joinF (x y : D) : Option D :=
  if num y < num x then some x else if num x < num y then some y else if cmpt x y = true then some (if seen x < seen y then y else x) else none
def newer (x y : D) : Prop := num x < num y ∨ num x = num y ∧ seen x < seen y
instance (x y : D) : Decidable (newer x y) := by unfold newer; infer_instance

theorem joinF_some {x y w : D} (h : joinF x y = some w) : w = if newer x y then y else x := by
  have hn : newer x y ↔ (num x < num y ∨ num x = num y ∧ seen x < seen y) := Iff.rfl
  unfold joinF at h
  split at h
  · rw [if_neg (fun e => by have := hn.1 e; omega)]; exact (Option.some.inj h).symm
  · split at h
    · rw [if_pos (hn.2 (by omega))]; exact (Option.some.inj h).symm
    · split at h
      · have := (Option.some.inj h).symm
        rw [this]
        by_cases c : seen x < seen y
        · rw [if_pos c, if_pos (hn.2 (by omega))]
        · rw [if_neg c, if_neg (fun e => by have := hn.1 e; omega)]
      · cases h

theorem joinF_mem {x y w : D} (h : joinF x y = some w) : w = x ∨ w = y := by
  rw [joinF_some h]; split <;> simp

def zipF : List D → List D → Option (List D)
  | [], b => some b
  | x :: a, [] => some (x :: a)
  | x :: a, y :: b =>
    if Op.bytesLess (uri x) (uri y) = true then (zipF a (y :: b)).map (x :: ·)
    else if Op.bytesLess (uri y) (uri x) = true then (zipF (x :: a) b).map (y :: ·)
    else match joinF x y with
      | none => none
      | some w => (zipF a b).map (w :: ·)
termination_by a b => a.length + b.length

theorem str_inj {s t : ByteArray} (h : s.toList = t.toList) : s = t := by
  rw [ByteArray.toList_eq, ByteArray.toList_eq, Array.toList_inj] at h
  cases s; cases t; exact congrArg ByteArray.mk h

theorem hsh_fits (d : D) : fitsL (List.replicate 32 (.int .u8)) (hsh d) = true := rfl

theorem hsh_eq {x y : D} : eqCells (hsh x) (hsh y) = true ↔ hsh x = hsh y := eqCells_int _ _ 32 (hsh_fits x) (hsh_fits y)

def joinR (x y : D) : List D := match joinF x y with | some w => [w, .bool true] | none => [x, .bool false]

theorem rec_eta {d : D} (h : Fit d) : D.agg (.str (d.cell 0).s :: .int .u64 (num d) :: (hsh d ++ [.int .i64 (frm d), .int .i64 (til d), .int .i64 (seen d)])) = d := eta_fit h

theorem join_ok (x y : D) (hx : Fit x) (hy : Fit y) (e : uri x = uri y) : Cl ty tab 29 [x, y] = some (joinR x y) := by
  have := s_fresh_Merge_1 0 x y (r := joinR x y) ?_
  · rwa [eta_fit hx, eta_fit hy] at this
  have ex : D.agg (etaCells ks0 x 0) = x := eta_fit hx
  have ey : D.agg (etaCells ks0 y 0) = y := eta_fit hy
  unfold fresh_Merge_1
  by_cases h1 : num y < num x
  · have e1 : joinR x y = [x, .bool true] := by unfold joinR joinF; rw [if_pos h1]
    have h1' : (y.cell 1).i < (x.cell 1).i := h1
    rw [e1]
    simp (disch := omega) only [decide_true, decide_false, if_true, if_false, Bool.false_eq_true, Bool.true_eq_false, eq_self, Bool.true_or, Bool.false_or, Bool.true_and, Bool.false_and, Bool.or_true, Bool.or_false, Bool.and_true, Bool.and_false, List.getD_cons_zero, List.getD_cons_succ, cell_int, cell_bool, cell_str, cell_sl, cell_agg, i_int, b_bool, s_str, nb_sl, els_sl, nb_ov, els_ov, cs_pv, cs_agg, Int.toNat_natCast, toNat_sub1, toNat_add1, List.length_map, getD_map, ct, cf, beqd, bned, cp, cn, cnp, cnn, if_pos, if_neg, wrap64, Option.bind_some, Bool.not_true, Bool.not_false, List.isEmpty_nil, List.nil_append, List.length_nil, List.length_cons, Nat.zero_add, ex]
  have h1' : ¬ (y.cell 1).i < (x.cell 1).i := h1
  by_cases h2 : num x < num y
  · have e1 : joinR x y = [y, .bool true] := by unfold joinR joinF; rw [if_neg h1, if_pos h2]
    have h2' : (x.cell 1).i < (y.cell 1).i := h2
    rw [e1]
    simp (disch := omega) only [decide_true, decide_false, if_true, if_false, Bool.false_eq_true, Bool.true_eq_false, eq_self, Bool.true_or, Bool.false_or, Bool.true_and, Bool.false_and, Bool.or_true, Bool.or_false, Bool.and_true, Bool.and_false, List.getD_cons_zero, List.getD_cons_succ, cell_int, cell_bool, cell_str, cell_sl, cell_agg, i_int, b_bool, s_str, nb_sl, els_sl, nb_ov, els_ov, cs_pv, cs_agg, Int.toNat_natCast, toNat_sub1, toNat_add1, List.length_map, getD_map, ct, cf, beqd, bned, cp, cn, cnp, cnn, if_pos, if_neg, wrap64, Option.bind_some, Bool.not_true, Bool.not_false, List.isEmpty_nil, List.nil_append, List.length_nil, List.length_cons, Nat.zero_add, ey]
  have h2' : ¬ (x.cell 1).i < (y.cell 1).i := h2
  have hh : eqCells (etaCells ks1 x 2) (etaCells ks1 y 2) = eqCells (hsh x) (hsh y) := rfl
  have hw : (decide ((x.cell 34).i = (y.cell 34).i) && decide ((x.cell 35).i = (y.cell 35).i)) = ((frm x == frm y) && (til x == til y)) := rfl
  cases h3 : eqCells (hsh x) (hsh y) with
  | false =>
    have e1 : joinR x y = [x, .bool false] := by unfold joinR joinF cmpt; rw [if_neg h1, if_neg h2, h3]; rfl
    rw [e1]
    simp (disch := omega) only [decide_true, decide_false, if_true, if_false, Bool.false_eq_true, Bool.true_eq_false, eq_self, Bool.true_or, Bool.false_or, Bool.true_and, Bool.false_and, Bool.or_true, Bool.or_false, Bool.and_true, Bool.and_false, List.getD_cons_zero, List.getD_cons_succ, cell_int, cell_bool, cell_str, cell_sl, cell_agg, i_int, b_bool, s_str, nb_sl, els_sl, nb_ov, els_ov, cs_pv, cs_agg, Int.toNat_natCast, toNat_sub1, toNat_add1, List.length_map, getD_map, ct, cf, beqd, bned, cp, cn, cnp, cnn, if_pos, if_neg, wrap64, Option.bind_some, Bool.not_true, Bool.not_false, List.isEmpty_nil, List.nil_append, List.length_nil, List.length_cons, Nat.zero_add, hh, h3, ex]
  | true =>
    cases h4 : ((frm x == frm y) && (til x == til y)) with
    | false =>
      have e1 : joinR x y = [x, .bool false] := by unfold joinR joinF cmpt; rw [if_neg h1, if_neg h2, h3, h4]; rfl
      rw [e1]
      have hb : (decide (frm x = frm y) && decide (til x = til y)) = false := h4
      simp (disch := omega) only [decide_true, decide_false, if_true, if_false, Bool.false_eq_true, Bool.true_eq_false, eq_self, Bool.true_or, Bool.false_or, Bool.true_and, Bool.false_and, Bool.or_true, Bool.or_false, Bool.and_true, Bool.and_false, List.getD_cons_zero, List.getD_cons_succ, cell_int, cell_bool, cell_str, cell_sl, cell_agg, i_int, b_bool, s_str, nb_sl, els_sl, nb_ov, els_ov, cs_pv, cs_agg, Int.toNat_natCast, toNat_sub1, toNat_add1, List.length_map, getD_map, ct, cf, beqd, bned, cp, cn, cnp, cnn, if_pos, if_neg, wrap64, Option.bind_some, Bool.not_true, Bool.not_false, List.isEmpty_nil, List.nil_append, List.length_nil, List.length_cons, Nat.zero_add, hh, h3, hw, hb, ex]
    | true =>
      have e1 : joinR x y = [if seen x < seen y then y else x, .bool true] := by unfold joinR joinF cmpt; rw [if_neg h1, if_neg h2, h3, h4]; rfl
      rw [e1]
      have e2 : num x = num y := by omega
      have e3 := hsh_eq.1 h3
      simp only [Bool.and_eq_true, beq_iff_eq] at h4
      have hb : (decide (frm x = frm y) && decide (til x = til y)) = true := by simp [h4.1, h4.2]
      have e5 : (x.cell 0).s = (y.cell 0).s := str_inj e
      simp (disch := omega) only [decide_true, decide_false, if_true, if_false, Bool.false_eq_true, Bool.true_eq_false, eq_self, Bool.true_or, Bool.false_or, Bool.true_and, Bool.false_and, Bool.or_true, Bool.or_false, Bool.and_true, Bool.and_false, List.getD_cons_zero, List.getD_cons_succ, cell_int, cell_bool, cell_str, cell_sl, cell_agg, i_int, b_bool, s_str, nb_sl, els_sl, nb_ov, els_ov, cs_pv, cs_agg, Int.toNat_natCast, toNat_sub1, toNat_add1, List.length_map, getD_map, ct, cf, beqd, bned, cp, cn, cnp, cnn, if_pos, if_neg, wrap64, Option.bind_some, Bool.not_true, Bool.not_false, List.isEmpty_nil, List.nil_append, List.length_nil, List.length_cons, Nat.zero_add, hh, h3, hw, hb]
      by_cases h5 : seen x < seen y
      · have h5' : (x.cell 36).i < (y.cell 36).i := h5
        rw [if_pos h5, if_pos h5']
        have : D.agg (.str (x.cell 0).s :: .int .u64 (num x) :: (hsh x ++ [.int .i64 (frm x), .int .i64 (til x), .int .i64 (seen y)])) = y := by
          rw [e2, e3, h4.1, h4.2, e5]; exact rec_eta hy
        exact congrArg (fun w => some [w, D.bool true]) this
      · have h5' : ¬ (x.cell 36).i < (y.cell 36).i := h5
        rw [if_neg h5, if_neg h5']
        exact congrArg (fun w => some [w, D.bool true]) (rec_eta hx)

theorem order_ok (x y : D) (hx : Fit x) (hy : Fit y) : Cl ty tab 31 [x, y] = some [.int .i64 (cmpS (uri x) (uri y))] := by
  have := s_fresh_Merge_2 0 x y (r := [.int .i64 (cmpS (uri x) (uri y))]) ?_
  · rwa [eta_fit hx, eta_fit hy] at this
  unfold fresh_Merge_2
  simp (disch := omega) only [decide_true, decide_false, if_true, if_false, Bool.false_eq_true, Bool.true_eq_false, eq_self, Bool.true_or, Bool.false_or, Bool.true_and, Bool.false_and, Bool.or_true, Bool.or_false, Bool.and_true, Bool.and_false, List.getD_cons_zero, List.getD_cons_succ, cell_int, cell_bool, cell_str, cell_sl, cell_agg, i_int, b_bool, s_str, nb_sl, els_sl, nb_ov, els_ov, cs_pv, cs_agg, Int.toNat_natCast, toNat_sub1, toNat_add1, List.length_map, getD_map, ct, cf, beqd, bned, cp, cn, cnp, cnn, if_pos, if_neg, wrap64, Option.bind_some, Bool.not_true, Bool.not_false, List.isEmpty_nil, List.nil_append, List.length_nil, List.length_cons, Nat.zero_add, cmp_ok]
  rfl

/-! zipping -/
def zipR (out : List D) : Option (List D) → Option (List D)
  | none => some [.ov 47 true [], .bool false]
  | some z => some [.ov 47 (out ++ z).isEmpty (out ++ z), .bool true]

theorem fine_tail {d : D} {l : List D} (h : Fine (d :: l)) : Fit d ∧ Fine l :=
  ⟨h.fit _ (List.mem_cons_self ..), by have := h.len; simp at this; omega, fun x hx => h.fit x (List.mem_cons_of_mem _ hx)⟩

theorem emp_app (a b c : List D) : (c.isEmpty && (b.isEmpty && a.isEmpty)) = (a ++ (b ++ c)).isEmpty := by
  cases a <;> cases b <;> cases c <;> rfl

theorem zipR_cons (out : List D) (x : D) (o : Option (List D)) : zipR out (o.map (x :: ·)) = zipR (out ++ [x]) o := by
  cases o with
  | none => rfl
  | some z => simp [zipR]

theorem zip_ok (n m : Bool) (a b : List D) (ha : Fine a) (hb : Fine b) (h1 : a.length ≤ 300) (h2 : b.length ≤ 300) : Cl ty tab 30 [.sl 47 n a, .sl 47 m b, .fn 31 [], .fn 29 []] = zipR [] (zipF a b) := by
  obtain ⟨k, hk⟩ := rounds
  have hz : ∃ r, zipR [] (zipF a b) = some r := by cases zipF a b <;> exact ⟨_, rfl⟩
  obtain ⟨r, hr⟩ := hz
  rw [hr]
  refine s_fresh_zip k _ _ _ _ ?_
  rw [← hr]
  unfold fresh_zip
  have := iter_wf (F := fresh_zip.b0 (Cl ty tab) k) (σ := List D × List D × List D) (fun q => [.sl 47 n q.1, .sl 47 m q.2.1, .ov 47 q.2.2.isEmpty q.2.2]) (fun q => zipR q.2.2 (zipF q.1 q.2.1)) (fun q => q.1.length + q.2.1.length)
    (fun q => Fine q.1 ∧ Fine q.2.1 ∧ q.2.2.length + q.1.length + q.2.1.length ≤ 700) (fun q hq again hag => ?_) k (a, b, []) ⟨ha, hb, by simp only [List.length_nil]; omega⟩ (by simp only; omega)
  · exact this
  · obtain ⟨a, b, out⟩ := q
    obtain ⟨ha, hb, hq⟩ := hq
    simp only at ha hb hq hag ⊢
    unfold fresh_zip.b0
    cases a with
    | nil =>
      have e1 : zipF [] b = some b := by rw [zipF]
      rw [e1]
      simp only [List.length_nil] at hq
      simp (disch := omega) only [decide_true, decide_false, if_true, if_false, Bool.false_eq_true, Bool.true_eq_false, eq_self, Bool.true_or, Bool.false_or, Bool.true_and, Bool.false_and, Bool.or_true, Bool.or_false, Bool.and_true, Bool.and_false, List.getD_cons_zero, List.getD_cons_succ, cell_int, cell_bool, cell_str, cell_sl, cell_agg, i_int, b_bool, s_str, nb_sl, els_sl, nb_ov, els_ov, cs_pv, cs_agg, Int.toNat_natCast, toNat_sub1, toNat_add1, List.length_map, getD_map, ct, cf, beqd, bned, cp, cn, cnp, cnn, if_pos, if_neg, wrap64, Option.bind_some, Bool.not_true, Bool.not_false, List.isEmpty_nil, List.nil_append, List.length_nil, List.length_cons, Nat.zero_add, List.append_nil]
      cases out <;> cases b <;> rfl
    | cons x a =>
      cases b with
      | nil =>
        have e1 : zipF (x :: a) [] = some (x :: a) := by rw [zipF]
        rw [e1]
        simp only [List.length_nil, List.length_cons, List.length_append] at hq
        simp (disch := omega) only [decide_true, decide_false, if_true, if_false, Bool.false_eq_true, Bool.true_eq_false, eq_self, Bool.true_or, Bool.false_or, Bool.true_and, Bool.false_and, Bool.or_true, Bool.or_false, Bool.and_true, Bool.and_false, List.getD_cons_zero, List.getD_cons_succ, cell_int, cell_bool, cell_str, cell_sl, cell_agg, i_int, b_bool, s_str, nb_sl, els_sl, nb_ov, els_ov, cs_pv, cs_agg, Int.toNat_natCast, toNat_sub1, toNat_add1, List.length_map, getD_map, ct, cf, beqd, bned, cp, cn, cnp, cnn, if_pos, if_neg, wrap64, Option.bind_some, Bool.not_true, Bool.not_false, List.isEmpty_nil, List.nil_append, List.length_nil, List.length_cons, Nat.zero_add, List.append_nil, List.length_append]
        cases out <;> rfl
      | cons y b =>
        obtain ⟨fx, fa⟩ := fine_tail ha
        obtain ⟨fy, fb⟩ := fine_tail hb
        have ex : D.agg (etaCells ks0 x 0) = x := eta_fit fx
        have ey : D.agg (etaCells ks0 y 0) = y := eta_fit fy
        have ord := order_ok x y fx fy
        simp only [List.length_cons] at hq
        have t1 : ∀ (x : D) (l : List D), List.take (l.length + 1 - Int.toNat 1) (List.drop (Int.toNat 1) (x :: l)) = l := fun x l => by
          show l.take _ = l
          apply List.take_of_length_le
          simp
        have em : ∀ w : D, (out ++ [w]).isEmpty = false := fun w => by simp
        cases c1 : Op.bytesLess (uri x) (uri y) with
        | true =>
          have := hag (a, y :: b, out ++ [x]) ⟨fa, hb, by simp only [List.length_append, List.length_cons, List.length_nil]; omega⟩ (by simp only [List.length_cons]; omega)
          unfold cmpS at ord
          rw [c1] at ord
          have ez : zipR out (zipF (x :: a) (y :: b)) = zipR (out ++ [x]) (zipF a (y :: b)) := by rw [zipF, c1, if_pos rfl, zipR_cons]
          rw [ez]
          simp (disch := omega) only [decide_true, decide_false, if_true, if_false, Bool.false_eq_true, Bool.true_eq_false, eq_self, Bool.true_or, Bool.false_or, Bool.true_and, Bool.false_and, Bool.or_true, Bool.or_false, Bool.and_true, Bool.and_false, List.getD_cons_zero, List.getD_cons_succ, cell_int, cell_bool, cell_str, cell_sl, cell_agg, i_int, b_bool, s_str, nb_sl, els_sl, nb_ov, els_ov, cs_pv, cs_agg, Int.toNat_natCast, toNat_sub1, toNat_add1, List.length_map, getD_map, ct, cf, beqd, bned, cp, cn, cnp, cnn, if_pos, if_neg, wrap64, Option.bind_some, Bool.not_true, Bool.not_false, List.isEmpty_nil, List.nil_append, List.length_nil, List.length_cons, Nat.zero_add, ex, ey, ord, t1, em] at this ⊢
          exact this
        | false =>
          cases c2 : Op.bytesLess (uri y) (uri x) with
          | true =>
            have := hag (x :: a, b, out ++ [y]) ⟨ha, fb, by simp only [List.length_append, List.length_cons, List.length_nil]; omega⟩ (by simp only [List.length_cons]; omega)
            unfold cmpS at ord
            rw [c1, c2] at ord
            have ez : zipR out (zipF (x :: a) (y :: b)) = zipR (out ++ [y]) (zipF (x :: a) b) := by rw [zipF, c1, if_neg (by simp), c2, if_pos rfl, zipR_cons]
            rw [ez]
            simp (disch := omega) only [decide_true, decide_false, if_true, if_false, Bool.false_eq_true, Bool.true_eq_false, eq_self, Bool.true_or, Bool.false_or, Bool.true_and, Bool.false_and, Bool.or_true, Bool.or_false, Bool.and_true, Bool.and_false, List.getD_cons_zero, List.getD_cons_succ, cell_int, cell_bool, cell_str, cell_sl, cell_agg, i_int, b_bool, s_str, nb_sl, els_sl, nb_ov, els_ov, cs_pv, cs_agg, Int.toNat_natCast, toNat_sub1, toNat_add1, List.length_map, getD_map, ct, cf, beqd, bned, cp, cn, cnp, cnn, if_pos, if_neg, wrap64, Option.bind_some, Bool.not_true, Bool.not_false, List.isEmpty_nil, List.nil_append, List.length_nil, List.length_cons, Nat.zero_add, ex, ey, ord, t1, em] at this ⊢
            exact this
          | false =>
            have e0 := bl_tri _ _ c1 c2
            have jn := join_ok x y fx fy e0
            unfold cmpS at ord
            rw [c1, c2] at ord
            unfold joinR at jn
            cases j : joinF x y with
            | none =>
              rw [j] at jn
              have ez : zipR out (zipF (x :: a) (y :: b)) = some [.ov 47 true [], .bool false] := by rw [zipF, c1, if_neg (by simp), c2, if_neg (by simp), j]; rfl
              rw [ez]
              simp (disch := omega) only [decide_true, decide_false, if_true, if_false, Bool.false_eq_true, Bool.true_eq_false, eq_self, Bool.true_or, Bool.false_or, Bool.true_and, Bool.false_and, Bool.or_true, Bool.or_false, Bool.and_true, Bool.and_false, List.getD_cons_zero, List.getD_cons_succ, cell_int, cell_bool, cell_str, cell_sl, cell_agg, i_int, b_bool, s_str, nb_sl, els_sl, nb_ov, els_ov, cs_pv, cs_agg, Int.toNat_natCast, toNat_sub1, toNat_add1, List.length_map, getD_map, ct, cf, beqd, bned, cp, cn, cnp, cnn, if_pos, if_neg, wrap64, Option.bind_some, Bool.not_true, Bool.not_false, List.isEmpty_nil, List.nil_append, List.length_nil, List.length_cons, Nat.zero_add, ex, ey, ord, jn]
            | some w =>
              rw [j] at jn
              have fw : Fit w := by rcases joinF_mem j with rfl | rfl; exact fx; exact fy
              have ew : D.agg (etaCells ks0 w 0) = w := eta_fit fw
              have := hag (a, b, out ++ [w]) ⟨fa, fb, by simp only [List.length_append, List.length_cons, List.length_nil]; omega⟩ (by simp only [List.length_cons]; omega)
              have ez : zipR out (zipF (x :: a) (y :: b)) = zipR (out ++ [w]) (zipF a b) := by
                rw [zipF, c1, if_neg (by simp), c2, if_neg (by simp), j]
                exact zipR_cons out w _
              rw [ez]
              simp (disch := omega) only [decide_true, decide_false, if_true, if_false, Bool.false_eq_true, Bool.true_eq_false, eq_self, Bool.true_or, Bool.false_or, Bool.true_and, Bool.false_and, Bool.or_true, Bool.or_false, Bool.and_true, Bool.and_false, List.getD_cons_zero, List.getD_cons_succ, cell_int, cell_bool, cell_str, cell_sl, cell_agg, i_int, b_bool, s_str, nb_sl, els_sl, nb_ov, els_ov, cs_pv, cs_agg, Int.toNat_natCast, toNat_sub1, toNat_add1, List.length_map, getD_map, ct, cf, beqd, bned, cp, cn, cnp, cnn, if_pos, if_neg, wrap64, Option.bind_some, Bool.not_true, Bool.not_false, List.isEmpty_nil, List.nil_append, List.length_nil, List.length_cons, Nat.zero_add, ex, ey, ord, jn, ew, t1, em] at this ⊢
              exact this

/-! long lists -/
theorem check_ev {n : Bool} {l : List D} {r : Int} (h1 : Nat.ble l.length 1000 = true) (h2 : l.all (Vk.fits ⟨true, ks0⟩) = true) (h : checkF l = r) : Ev ty tab 19 [.sl 47 n l] [.int .i64 r] := by
  rw [Nat.ble_eq] at h1
  have := check_ok n l ⟨by omega, fun d hd => List.all_eq_true.1 h2 d hd⟩
  rw [h] at this
  exact Cl_eq.1 this

theorem zipF_last (z : D) : ∀ (a : List D), a.all (fun x => Op.bytesLess (uri x) (uri z)) = true → zipF a [z] = some (a ++ [z])
  | [], _ => by unfold zipF; rfl
  | x :: a, h => by
    simp only [List.all_cons, Bool.and_eq_true] at h
    unfold zipF
    rw [if_pos h.1, zipF_last z a h.2]
    rfl

theorem zip_ev {n m : Bool} {a : List D} {z : D} (h1 : Nat.ble a.length 300 = true) (h2 : a.all (Vk.fits ⟨true, ks0⟩) = true) (h3 : Vk.fits ⟨true, ks0⟩ z = true) (h : a.all (fun x => Op.bytesLess (uri x) (uri z)) = true) :
    Ev ty tab 30 [.sl 47 n a, .sl 47 m [z], .fn 31 [], .fn 29 []] [.ov 47 false (a ++ [z]), .bool true] := by
  rw [Nat.ble_eq] at h1
  have := zip_ok n m a [z] ⟨by omega, fun d hd => List.all_eq_true.1 h2 d hd⟩ ⟨by simp, fun d hd => by rw [List.mem_singleton] at hd; subst hd; exact h3⟩ h1 (by simp)
  rw [zipF_last z a h] at this
  refine Cl_eq.1 (this.trans ?_)
  unfold zipR
  have e : (a ++ [z]).isEmpty = false := by simp
  simp only [List.nil_append, e]

end Go.Proofs.Ytmfhhbiaghejjaa.Own
