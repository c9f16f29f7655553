import Derived.Test.YtekkbhmlocageaaG
import Derived.Test.YtekkbhmlocageaaStable
import Derived.Test.YtekkbhmlocageaaAlive
namespace Go.Proofs.Ytekkbhmlocageaa.Own
open Go Go.Proofs.Ytekkbhmlocageaa.GD
set_option linter.unusedVariables false
set_option linter.unusedSimpArgs false

theorem alive_is : Cl ty tab 12 [] = some [.bool true] := Cl_eq.2 alive_ev

theorem cmp_yes {a b : D} (ha : Jd a) (hb : Jd b) (ra : rightJ a = true) (rb : rightJ b = true) : Cl ty tab 10 [a, b] = some [.int .i64 (cmpJ a b), .int .i64 0] := by
  rw [Compare_ok a b ha hb]
  unfold compareR
  rw [if_pos ⟨ra, rb⟩]

/-- all of them are judged routes -/
def AllJ (l : List D) : Prop := ∀ d, d ∈ l → Jd d
theorem AllJ.get {l : List D} (h : AllJ l) {i : Nat} (hi : i < l.length) : Jd (l.getD i .undef) := by
  rw [getD_get hi]; exact h _ (List.getElem_mem hi)

def firstIx (p : D → Bool) : List D → Nat → Int
  | [], _ => -1
  | a :: t, i => if p a = true then i else firstIx p t (i + 1)
theorem firstIx_any (p : D → Bool) : ∀ (l : List D) (i : Nat), (decide (0 ≤ firstIx p l i)) = l.any p
  | [], i => rfl
  | a :: t, i => by
    unfold firstIx
    rw [List.any_cons]
    cases h : p a
    · simp only [Bool.false_eq_true, if_false, Bool.false_or]; exact firstIx_any p t (i + 1)
    · simp

/-! check -/
def badJ (d : D) : Bool := !rightJ d
theorem bad_ok (d : D) (h : Jd d) : Cl ty tab 56 [d] = some [.bool (badJ d)] := by
  have := s_policy_check_1 0 d (r := [.bool (badJ d)]) ?_
  · rwa [h.eta] at this
  unfold policy_check_1 badJ
  simp (disch := omega) only [decide_true, decide_false, if_true, if_false, Bool.false_eq_true, Bool.true_eq_false, eq_self, Bool.true_or, Bool.false_or, Bool.true_and, Bool.false_and, Bool.or_true, Bool.or_false, Bool.and_true, Bool.and_false, List.getD_cons_zero, List.getD_cons_succ, cell_int, cell_bool, cell_str, cell_sl, cell_agg, i_int, b_bool, s_str, nb_sl, els_sl, nb_ov, els_ov, cs_pv, cs_agg, Int.toNat_natCast, toNat_sub1, toNat_add1, List.length_map, getD_map, ct, cf, beqd, bned, cp, cn, cnp, cnn, if_pos, if_neg, wrap64, Option.bind_some, Bool.not_true, Bool.not_false, List.isEmpty_nil, List.nil_append, List.length_nil, List.length_cons, Nat.zero_add, h.eta, right_ok d h]

theorem ixBad_ok (n : Bool) (l : List D) (hl : l.length ≤ 1000) (hj : AllJ l) : Cl ty tab 55 [.sl 39 n l, .fn 56 []] = some [.int .i64 (firstIx badJ l 0)] := by
  refine s_slices_IndexFunc_v2 2000 n l ?_
  unfold slices_IndexFunc_v2
  have := iter_ix (F := slices_IndexFunc_v2.b0_1 (Cl ty tab) 2000 l) l.length (fun i => [.int .i64 i]) (fun i => some [.int .i64 (firstIx badJ (l.drop i) i)]) (fun i hi again ha => ?_) (fun again => ?_) 2000 (by omega) 0 (by omega)
  · simpa using this
  · unfold slices_IndexFunc_v2.b0_1
    have hg : l.getD i .undef = l[i] := getD_get hi
    have hd := hj _ (List.getElem_mem hi)
    rw [List.drop_eq_getElem_cons hi]
    unfold firstIx
    cases h : badJ l[i]
    · simp (disch := omega) only [decide_true, decide_false, if_true, if_false, Bool.false_eq_true, Bool.true_eq_false, eq_self, Bool.true_or, Bool.false_or, Bool.true_and, Bool.false_and, Bool.or_true, Bool.or_false, Bool.and_true, Bool.and_false, List.getD_cons_zero, List.getD_cons_succ, cell_int, cell_bool, cell_str, cell_sl, cell_agg, i_int, b_bool, s_str, nb_sl, els_sl, nb_ov, els_ov, cs_pv, cs_agg, Int.toNat_natCast, toNat_sub1, toNat_add1, List.length_map, getD_map, ct, cf, beqd, bned, cp, cn, cnp, cnn, if_pos, if_neg, wrap64, Option.bind_some, Bool.not_true, Bool.not_false, List.isEmpty_nil, List.nil_append, List.length_nil, List.length_cons, Nat.zero_add, hg, hd.eta, bad_ok _ hd, h, Int.natCast_add, Int.natCast_one] at ha ⊢
      exact ha
    · simp (disch := omega) only [decide_true, decide_false, if_true, if_false, Bool.false_eq_true, Bool.true_eq_false, eq_self, Bool.true_or, Bool.false_or, Bool.true_and, Bool.false_and, Bool.or_true, Bool.or_false, Bool.and_true, Bool.and_false, List.getD_cons_zero, List.getD_cons_succ, cell_int, cell_bool, cell_str, cell_sl, cell_agg, i_int, b_bool, s_str, nb_sl, els_sl, nb_ov, els_ov, cs_pv, cs_agg, Int.toNat_natCast, toNat_sub1, toNat_add1, List.length_map, getD_map, ct, cf, beqd, bned, cp, cn, cnp, cnn, if_pos, if_neg, wrap64, Option.bind_some, Bool.not_true, Bool.not_false, List.isEmpty_nil, List.nil_append, List.length_nil, List.length_cons, Nat.zero_add, hg, hd.eta, bad_ok _ hd, h]
  · unfold slices_IndexFunc_v2.b0_1
    rw [List.drop_length]
    simp (disch := omega) only [decide_true, decide_false, if_true, if_false, Bool.false_eq_true, Bool.true_eq_false, eq_self, Bool.true_or, Bool.false_or, Bool.true_and, Bool.false_and, Bool.or_true, Bool.or_false, Bool.and_true, Bool.and_false, List.getD_cons_zero, List.getD_cons_succ, cell_int, cell_bool, cell_str, cell_sl, cell_agg, i_int, b_bool, s_str, nb_sl, els_sl, nb_ov, els_ov, cs_pv, cs_agg, Int.toNat_natCast, toNat_sub1, toNat_add1, List.length_map, getD_map, ct, cf, beqd, bned, cp, cn, cnp, cnn, if_pos, if_neg, wrap64, Option.bind_some, Bool.not_true, Bool.not_false, List.isEmpty_nil, List.nil_append, List.length_nil, List.length_cons, Nat.zero_add, firstIx]

def checkF (x y : Int) (l : List D) : Int := if 7 < x then 8 else if 7 < y then 8 else if 500 < l.length then 4 else if l.any badJ = true then 8 else 0
theorem check_ok (x y : Int) (n : Bool) (l : List D) (hj : AllJ l) : Cl ty tab 32 [.agg [.int .u8 x, .int .u8 y], .sl 39 n l] = some [.int .i64 (checkF x y l)] := by
  refine s_policy_check 0 x y n l ?_
  unfold policy_check checkF
  by_cases h1 : 7 < x
  · simp (disch := omega) only [decide_true, decide_false, if_true, if_false, Bool.false_eq_true, Bool.true_eq_false, eq_self, Bool.true_or, Bool.false_or, Bool.true_and, Bool.false_and, Bool.or_true, Bool.or_false, Bool.and_true, Bool.and_false, List.getD_cons_zero, List.getD_cons_succ, cell_int, cell_bool, cell_str, cell_sl, cell_agg, i_int, b_bool, s_str, nb_sl, els_sl, nb_ov, els_ov, cs_pv, cs_agg, Int.toNat_natCast, toNat_sub1, toNat_add1, List.length_map, getD_map, ct, cf, beqd, bned, cp, cn, cnp, cnn, if_pos, if_neg, wrap64, Option.bind_some, Bool.not_true, Bool.not_false, List.isEmpty_nil, List.nil_append, List.length_nil, List.length_cons, Nat.zero_add, h1]
  by_cases h2 : 7 < y
  · simp (disch := omega) only [decide_true, decide_false, if_true, if_false, Bool.false_eq_true, Bool.true_eq_false, eq_self, Bool.true_or, Bool.false_or, Bool.true_and, Bool.false_and, Bool.or_true, Bool.or_false, Bool.and_true, Bool.and_false, List.getD_cons_zero, List.getD_cons_succ, cell_int, cell_bool, cell_str, cell_sl, cell_agg, i_int, b_bool, s_str, nb_sl, els_sl, nb_ov, els_ov, cs_pv, cs_agg, Int.toNat_natCast, toNat_sub1, toNat_add1, List.length_map, getD_map, ct, cf, beqd, bned, cp, cn, cnp, cnn, if_pos, if_neg, wrap64, Option.bind_some, Bool.not_true, Bool.not_false, List.isEmpty_nil, List.nil_append, List.length_nil, List.length_cons, Nat.zero_add, h1, h2]
  by_cases h3 : 500 < l.length
  · simp (disch := omega) only [decide_true, decide_false, if_true, if_false, Bool.false_eq_true, Bool.true_eq_false, eq_self, Bool.true_or, Bool.false_or, Bool.true_and, Bool.false_and, Bool.or_true, Bool.or_false, Bool.and_true, Bool.and_false, List.getD_cons_zero, List.getD_cons_succ, cell_int, cell_bool, cell_str, cell_sl, cell_agg, i_int, b_bool, s_str, nb_sl, els_sl, nb_ov, els_ov, cs_pv, cs_agg, Int.toNat_natCast, toNat_sub1, toNat_add1, List.length_map, getD_map, ct, cf, beqd, bned, cp, cn, cnp, cnn, if_pos, if_neg, wrap64, Option.bind_some, Bool.not_true, Bool.not_false, List.isEmpty_nil, List.nil_append, List.length_nil, List.length_cons, Nat.zero_add, h1, h2, h3]
  have c : Cl ty tab 30 [.sl 39 n l, .fn 56 []] = some [.bool (l.any badJ)] := by
    refine s_slices_ContainsFunc_v2 0 n l ?_
    unfold slices_ContainsFunc_v2
    simp (disch := omega) only [decide_true, decide_false, if_true, if_false, Bool.false_eq_true, Bool.true_eq_false, eq_self, Bool.true_or, Bool.false_or, Bool.true_and, Bool.false_and, Bool.or_true, Bool.or_false, Bool.and_true, Bool.and_false, List.getD_cons_zero, List.getD_cons_succ, cell_int, cell_bool, cell_str, cell_sl, cell_agg, i_int, b_bool, s_str, nb_sl, els_sl, nb_ov, els_ov, cs_pv, cs_agg, Int.toNat_natCast, toNat_sub1, toNat_add1, List.length_map, getD_map, ct, cf, beqd, bned, cp, cn, cnp, cnn, if_pos, if_neg, wrap64, Option.bind_some, Bool.not_true, Bool.not_false, List.isEmpty_nil, List.nil_append, List.length_nil, List.length_cons, Nat.zero_add, ixBad_ok n l (by omega) hj, firstIx_any]
  cases h4 : l.any badJ <;> simp (disch := omega) only [decide_true, decide_false, if_true, if_false, Bool.false_eq_true, Bool.true_eq_false, eq_self, Bool.true_or, Bool.false_or, Bool.true_and, Bool.false_and, Bool.or_true, Bool.or_false, Bool.and_true, Bool.and_false, List.getD_cons_zero, List.getD_cons_succ, cell_int, cell_bool, cell_str, cell_sl, cell_agg, i_int, b_bool, s_str, nb_sl, els_sl, nb_ov, els_ov, cs_pv, cs_agg, Int.toNat_natCast, toNat_sub1, toNat_add1, List.length_map, getD_map, ct, cf, beqd, bned, cp, cn, cnp, cnn, if_pos, if_neg, wrap64, Option.bind_some, Bool.not_true, Bool.not_false, List.isEmpty_nil, List.nil_append, List.length_nil, List.length_cons, Nat.zero_add, h1, h2, h3, c, h4]

theorem checkF_zero {x y : Int} {l : List D} (h : checkF x y l = 0) : x ≤ 7 ∧ y ≤ 7 ∧ l.length ≤ 500 ∧ ∀ d, d ∈ l → rightJ d = true := by
  unfold checkF at h
  split at h
  · omega
  split at h
  · omega
  split at h
  · omega
  split at h
  · omega
  rename_i h1 h2 h3 h4
  refine ⟨by omega, by omega, by omega, fun d hd => ?_⟩
  cases hr : rightJ d
  · exact absurd (List.any_eq_true.2 ⟨d, hd, by unfold badJ; rw [hr]; rfl⟩) h4
  · rfl

/-! the order -/
def cL (l : List D) (i k : Int) : Int := cmpJ (l.getD i.toNat .undef) (l.getD k.toNat .undef)
theorem cmp_cL (l : List D) : Cmp (cL l) := ⟨fun a b => TC.cmpJ.anti _ _, fun a b d h1 h2 => TC.cmpJ.tr _ _ _ h1 h2⟩
def VL (l : List D) (i : Int) : Prop := 0 ≤ i ∧ i < (l.length : Nat)
def tkJ (x y : Int) (d : D) : Bool := takesF x y (d.cell 14).i (d.cell 15).i (d.cell 16).i

theorem less_ok (n : Bool) (l : List D) (hj : AllJ l) (i k : Int) (hi : VL l i) (hk : VL l k) : Cl ty tab 34 [.int .i64 i, .int .i64 k, .rp [.sl 39 n l] 0] = some [.int .i64 (cL l i k)] := by
  refine s_policy_Order_1 0 i k n l ?_
  unfold policy_Order_1 cL
  unfold VL at hi hk
  have h1 := hj.get (i := i.toNat) (by omega)
  have h2 := hj.get (i := k.toNat) (by omega)
  simp (disch := omega) only [decide_true, decide_false, if_true, if_false, Bool.false_eq_true, Bool.true_eq_false, eq_self, Bool.true_or, Bool.false_or, Bool.true_and, Bool.false_and, Bool.or_true, Bool.or_false, Bool.and_true, Bool.and_false, List.getD_cons_zero, List.getD_cons_succ, cell_int, cell_bool, cell_str, cell_sl, cell_agg, i_int, b_bool, s_str, nb_sl, els_sl, nb_ov, els_ov, cs_pv, cs_agg, Int.toNat_natCast, toNat_sub1, toNat_add1, List.length_map, getD_map, ct, cf, beqd, bned, cp, cn, cnp, cnn, if_pos, if_neg, wrap64, Option.bind_some, Bool.not_true, Bool.not_false, List.isEmpty_nil, List.nil_append, List.length_nil, List.length_cons, Nat.zero_add, h1.eta, h2.eta, compare_ok _ _ h1 h2]

def takenN (x y : Int) (l : List D) (i : Nat) : List Nat := (List.range i).filter fun j => tkJ x y (l.getD j .undef)
theorem takenN_succ (x y : Int) (l : List D) (i : Nat) : takenN x y l (i + 1) = takenN x y l i ++ if tkJ x y (l.getD i .undef) = true then [i] else [] := by
  unfold takenN
  rw [List.range_succ, List.filter_append]
  congr 1
  cases h : tkJ x y (l.getD i .undef)
  · simp only [List.filter_cons, h, Bool.false_eq_true, if_false, List.filter_nil]
  · simp only [List.filter_cons, h, if_true, List.filter_nil]
theorem takenN_len (x y : Int) (l : List D) (i : Nat) : (takenN x y l i).length ≤ i := by
  unfold takenN
  exact Nat.le_trans (List.length_filter_le _ _) (by simp)
def natD (i : Nat) : D := .int .i64 i
theorem natD_mk (L : List Nat) : L.map natD = mk L.length (fun x => ((L.getD x 0 : Nat) : Int)) := by
  apply List.ext_getElem
  · simp [mk]
  · intro n h1 h2
    simp only [List.length_map] at h1
    simp [mk, natD, List.getD_eq_getElem?_getD, h1]

/-- what is called the order -/
structure IsOrder (x y : Int) (l : List D) (o : List Int) : Prop where
  srt : o.Pairwise (Bef (cL l))
  mem : ∀ z, z ∈ o ↔ ∃ i : Nat, z = i ∧ i < l.length ∧ tkJ x y (l.getD i .undef) = true
  len : o.length ≤ l.length

theorem order_no (x y : Int) (n : Bool) (l : List D) (hj : AllJ l) (h : checkF x y l ≠ 0) : Cl ty tab 17 [.agg [.int .u8 x, .int .u8 y], .sl 39 n l] = some [.ov 3 true [], .int .i64 (checkF x y l)] := by
  refine s_policy_Order 0 x y n l ?_
  unfold policy_Order
  simp (disch := omega) only [decide_true, decide_false, if_true, if_false, Bool.false_eq_true, Bool.true_eq_false, eq_self, Bool.true_or, Bool.false_or, Bool.true_and, Bool.false_and, Bool.or_true, Bool.or_false, Bool.and_true, Bool.and_false, List.getD_cons_zero, List.getD_cons_succ, cell_int, cell_bool, cell_str, cell_sl, cell_agg, i_int, b_bool, s_str, nb_sl, els_sl, nb_ov, els_ov, cs_pv, cs_agg, Int.toNat_natCast, toNat_sub1, toNat_add1, List.length_map, getD_map, ct, cf, beqd, bned, cp, cn, cnp, cnn, if_pos, if_neg, wrap64, Option.bind_some, Bool.not_true, Bool.not_false, List.isEmpty_nil, List.nil_append, List.length_nil, List.length_cons, Nat.zero_add, check_ok x y n l hj, h, ne_eq, not_false_eq_true]

theorem order_ok (x y : Int) (n : Bool) (l : List D) (hj : AllJ l) (h : checkF x y l = 0) (hl : l.length ≤ 40) :
    ∃ nb o, Cl ty tab 17 [.agg [.int .u8 x, .int .u8 y], .sl 39 n l] = some [.ov 3 nb (o.map (D.int .i64)), .int .i64 0] ∧ IsOrder x y l o := by
  obtain ⟨L, eL⟩ : ∃ L, L = takenN x y l l.length := ⟨_, rfl⟩
  have hlen : L.length ≤ l.length := by rw [eL]; exact takenN_len _ _ _ _
  have hmem : ∀ i, i ∈ L ↔ i < l.length ∧ tkJ x y (l.getD i .undef) = true := fun i => by rw [eL]; unfold takenN; simp [List.mem_filter, List.mem_range]
  have hinc : L.Pairwise (· < ·) := by rw [eL]; unfold takenN; exact List.pairwise_lt_range.filter _
  obtain ⟨nb, enb⟩ : ∃ nb, nb = (takenN x y l l.length).isEmpty := ⟨_, rfl⟩
  obtain ⟨g, eg, G, S⟩ := sortStable_ok (N := L.length) (by omega) nb n l (cmp_cL l) (V := VL l) (less_ok n l hj) (by omega) (fun x => ((L.getD x 0 : Nat) : Int)) (fun z hz => by
      have : L.getD z 0 ∈ L := by rw [List.getD_eq_getElem?_getD, List.getElem?_eq_getElem hz]; exact List.getElem_mem hz
      have := (hmem _).1 this
      unfold VL
      omega) (fun a b hab hb => by
      rw [List.getD_eq_getElem?_getD, List.getD_eq_getElem?_getD, List.getElem?_eq_getElem hb, List.getElem?_eq_getElem (show a < L.length by omega)]
      have := List.pairwise_iff_getElem.1 hinc a b (by omega) hb hab
      simpa using this)
  rw [← natD_mk, mk_toL] at eg
  refine ⟨nb, toL L.length g, ?_, toL_sorted S, fun z => ?_, by rw [toL_length]; exact hlen⟩
  case refine_2 =>
    rw [toL_mem G]
    unfold toL
    simp only [List.mem_map, List.mem_range]
    constructor
    · rintro ⟨i, hi, e⟩
      have : L.getD i 0 ∈ L := by rw [List.getD_eq_getElem?_getD, List.getElem?_eq_getElem hi]; exact List.getElem_mem hi
      exact ⟨L.getD i 0, e.symm, (hmem _).1 this⟩
    · rintro ⟨i, e, hi⟩
      obtain ⟨k, hk, e1⟩ := List.getElem_of_mem ((hmem i).2 hi)
      exact ⟨k, hk, by rw [List.getD_eq_getElem?_getD, List.getElem?_eq_getElem hk, e]; simp [e1]⟩
  refine s_policy_Order 2000 x y n l ?_
  unfold policy_Order
  have lp := iter_ix (F := policy_Order.b0 (Cl ty tab) 2000 l) l.length (fun i => [.ov 3 (takenN x y l i).isEmpty ((takenN x y l i).map natD), .int .i64 i, .pv [.int .u8 x, .int .u8 y], .pv [.sl 39 n l]]) (fun _ => some [.ov 3 nb ((toL L.length g).map (D.int .i64)), .int .i64 0]) (fun i hi again ha => ?_) (fun again => ?_) 2000 (by omega) 0 (by omega)
  · simp (disch := omega) only [decide_true, decide_false, if_true, if_false, Bool.false_eq_true, Bool.true_eq_false, eq_self, Bool.true_or, Bool.false_or, Bool.true_and, Bool.false_and, Bool.or_true, Bool.or_false, Bool.and_true, Bool.and_false, List.getD_cons_zero, List.getD_cons_succ, cell_int, cell_bool, cell_str, cell_sl, cell_agg, i_int, b_bool, s_str, nb_sl, els_sl, nb_ov, els_ov, cs_pv, cs_agg, Int.toNat_natCast, toNat_sub1, toNat_add1, List.length_map, getD_map, ct, cf, beqd, bned, cp, cn, cnp, cnn, if_pos, if_neg, wrap64, Option.bind_some, Bool.not_true, Bool.not_false, List.isEmpty_nil, List.nil_append, List.length_nil, List.length_cons, Nat.zero_add, check_ok x y n l hj, h, ne_eq, not_true_eq_false]
    exact lp
  · unfold policy_Order.b0
    have tk : Cl ty tab 20 [.agg [.int .u8 x, .int .u8 y], .agg [.int .u8 ((l.getD i .undef).cell 14).i, .int .u8 ((l.getD i .undef).cell 15).i, .int .u8 ((l.getD i .undef).cell 16).i]] = some [.bool (tkJ x y (l.getD i .undef))] := takes_ok _ _ _ _ _
    have tl := takenN_len x y l i
    rw [takenN_succ] at ha
    cases hk : tkJ x y (l.getD i .undef)
    · rw [hk] at ha tk
      simp only [Bool.false_eq_true, if_false, List.append_nil] at ha
      simp (disch := omega) only [decide_true, decide_false, if_true, if_false, Bool.false_eq_true, Bool.true_eq_false, eq_self, Bool.true_or, Bool.false_or, Bool.true_and, Bool.false_and, Bool.or_true, Bool.or_false, Bool.and_true, Bool.and_false, List.getD_cons_zero, List.getD_cons_succ, cell_int, cell_bool, cell_str, cell_sl, cell_agg, i_int, b_bool, s_str, nb_sl, els_sl, nb_ov, els_ov, cs_pv, cs_agg, Int.toNat_natCast, toNat_sub1, toNat_add1, List.length_map, getD_map, ct, cf, beqd, bned, cp, cn, cnp, cnn, if_pos, if_neg, wrap64, Option.bind_some, Bool.not_true, Bool.not_false, List.isEmpty_nil, List.nil_append, List.length_nil, List.length_cons, Nat.zero_add, tk, Int.natCast_add, Int.natCast_one] at ha ⊢
      exact ha
    · rw [hk] at ha tk
      simp only [if_true, List.map_append, List.map_cons, List.map_nil, natD] at ha
      have ne : (takenN x y l i ++ [i]).isEmpty = false := by cases takenN x y l i <;> rfl
      rw [ne] at ha
      simp (disch := omega) only [decide_true, decide_false, if_true, if_false, Bool.false_eq_true, Bool.true_eq_false, eq_self, Bool.true_or, Bool.false_or, Bool.true_and, Bool.false_and, Bool.or_true, Bool.or_false, Bool.and_true, Bool.and_false, List.getD_cons_zero, List.getD_cons_succ, cell_int, cell_bool, cell_str, cell_sl, cell_agg, i_int, b_bool, s_str, nb_sl, els_sl, nb_ov, els_ov, cs_pv, cs_agg, Int.toNat_natCast, toNat_sub1, toNat_add1, List.length_map, getD_map, ct, cf, beqd, bned, cp, cn, cnp, cnn, if_pos, if_neg, wrap64, Option.bind_some, Bool.not_true, Bool.not_false, List.isEmpty_nil, List.nil_append, List.length_nil, List.length_cons, Nat.zero_add, tk, Int.natCast_add, Int.natCast_one] at ha ⊢
      exact ha
  · unfold policy_Order.b0
    rw [← eL]
    rw [← eL] at enb
    rw [← enb]
    simp (disch := omega) only [decide_true, decide_false, if_true, if_false, Bool.false_eq_true, Bool.true_eq_false, eq_self, Bool.true_or, Bool.false_or, Bool.true_and, Bool.false_and, Bool.or_true, Bool.or_false, Bool.and_true, Bool.and_false, List.getD_cons_zero, List.getD_cons_succ, cell_int, cell_bool, cell_str, cell_sl, cell_agg, i_int, b_bool, s_str, nb_sl, els_sl, nb_ov, els_ov, cs_pv, cs_agg, Int.toNat_natCast, toNat_sub1, toNat_add1, List.length_map, getD_map, ct, cf, beqd, bned, cp, cn, cnp, cnn, if_pos, if_neg, wrap64, Option.bind_some, Bool.not_true, Bool.not_false, List.isEmpty_nil, List.nil_append, List.length_nil, List.length_cons, Nat.zero_add, eg]

end Go.Proofs.Ytekkbhmlocageaa.Own
