import Derived.Test.YtekkbhmlocageaaI
import Derived.Test.YtekkbhmlocageaaRPolicyOthers
namespace Go.Proofs.Ytekkbhmlocageaa.Own
open Go Go.Proofs.Ytekkbhmlocageaa.GD
set_option linter.unusedVariables false
set_option linter.unusedSimpArgs false

theorem rightJ_known2 {d : D} (h : rightJ d = true) : knownF (d.cell 14).i (d.cell 15).i (d.cell 16).i = true := by
  unfold rightJ knownJ at h
  rw [Bool.and_eq_true] at h
  exact h.2
theorem acc_yes2 {x y : Int} {d : D} (hd : Jd d) (hr : rightJ d = true) (hx : x ≤ 7) (hy : y ≤ 7) : Cl ty tab 8 [.agg [.int .u8 x, .int .u8 y], .agg [.int .u8 (d.cell 14).i, .int .u8 (d.cell 15).i, .int .u8 (d.cell 16).i]] = some [.bool (tkJ x y d), .int .i64 0] := by
  rw [accepts_ok x y _ _ _ hd.v1 hd.v2 hd.v3]
  unfold acceptsR
  rw [if_neg (by rw [rightJ_known2 hr]; simp; omega)]
  rfl
theorem small_of2 {x y : Int} {l : List D} (h : checkF x y l = 0) (hg : greatL l = false) : l.length ≤ 40 := by
  have h1 := (checkF_zero h).2.2.1
  unfold greatL at hg
  rw [Bool.or_eq_false_iff, Bool.and_eq_false_iff] at hg
  rcases hg.1 with g | g <;> simp at g <;> omega

/-! one taken away -/
def lessL (l : List D) (a : Nat) : List D := l.take a ++ l.drop (a + 1)
def phi (a j : Nat) : Nat := if j < a then j else j + 1
theorem less_len {l : List D} {a : Nat} (h : a < l.length) : (lessL l a).length + 1 = l.length := by
  unfold lessL; rw [List.length_append, List.length_take, List.length_drop]; omega
theorem less_get {l : List D} {a j : Nat} (h : a < l.length) (hj : j < (lessL l a).length) : (lessL l a).getD j .undef = l.getD (phi a j) .undef := by
  have hn := less_len h
  unfold lessL phi
  rw [List.getD_eq_getElem?_getD, List.getD_eq_getElem?_getD]
  split
  · rename_i c
    rw [List.getElem?_append_left (by rw [List.length_take]; omega), List.getElem?_take_of_lt c]
  · rename_i c
    rw [List.getElem?_append_right (by rw [List.length_take]; omega), List.getElem?_drop]
    congr 2
    rw [List.length_take]; omega
theorem less_mem {l : List D} {a : Nat} {d : D} (h : d ∈ lessL l a) : d ∈ l := by
  unfold lessL at h
  rcases List.mem_append.1 h with h | h
  · exact List.mem_of_mem_take h
  · exact List.mem_of_mem_drop h
theorem checkF_of {x y : Int} {l : List D} (hx : x ≤ 7) (hy : y ≤ 7) (hl : l.length ≤ 500) (hr : ∀ d, d ∈ l → rightJ d = true) : checkF x y l = 0 := by
  unfold checkF
  rw [if_neg (by omega), if_neg (by omega), if_neg (by omega), if_neg]
  intro h
  obtain ⟨d, hd, hb⟩ := List.any_eq_true.1 h
  unfold badJ at hb
  rw [hr d hd] at hb
  exact absurd hb (by simp)
theorem same_trans {a b c : D} (h1 : samePf a c = true) (h2 : samePf b c = true) : samePf a b = true := by
  unfold samePf at *
  simp only [Bool.and_eq_true, decide_eq_true_eq] at *
  omega
theorem diffs_false {l : List D} (h : diffs l = false) {d : D} (hd : d ∈ l) : samePf d (l.getD 0 .undef) = true := by
  unfold diffs at h
  rw [List.any_eq_false] at h
  simpa using h d hd
theorem diffs_less {l : List D} {a : Nat} (ha : a < l.length) (h : diffs l = false) : diffs (lessL l a) = false := by
  unfold diffs
  rw [List.any_eq_false]
  intro d hd
  have h0 : 0 < (lessL l a).length := List.length_pos_of_mem hd
  have m0 : (lessL l a).getD 0 .undef ∈ l := by rw [getD_get h0]; exact less_mem (List.getElem_mem h0)
  have := same_trans (diffs_false h (less_mem hd)) (diffs_false h m0)
  intro hh
  rw [this] at hh
  exact absurd hh (by simp)

/-- the best one stays the best one -/
theorem best_stays {x y : Int} {l : List D} {a bi : Nat} (ha : a < l.length) {t o' : List Int} (ho : IsOrder x y l ((bi : Int) :: t)) (ho' : IsOrder x y (lessL l a) o') (hb : bi ≠ a) :
    ∃ c : Nat, o'.headD (-1) = c ∧ phi a c = bi ∧ c < (lessL l a).length := by
  have hn := less_len ha
  obtain ⟨i, e1, e2, e3⟩ := ho.head
  have e1 : bi = i := by omega
  subst e1
  obtain ⟨b', hb1, hb2⟩ : ∃ b', phi a b' = bi ∧ b' < (lessL l a).length := by
    by_cases c : bi < a
    · exact ⟨bi, by unfold phi; rw [if_pos c], by omega⟩
    · exact ⟨bi - 1, by unfold phi; rw [if_neg (by omega)]; omega, by omega⟩
  have tb' : tkJ x y ((lessL l a).getD b' .undef) = true := by rw [less_get ha hb2, hb1]; exact e3
  cases o' with
  | nil => exact absurd ((ho'.mem b').2 ⟨b', rfl, hb2, tb'⟩) (by simp)
  | cons c s =>
    obtain ⟨c', f1, f2, f3⟩ := ho'.head
    subst f1
    refine ⟨c', rfl, ?_, f2⟩
    have tc : tkJ x y (l.getD (phi a c') .undef) = true := by rw [← less_get ha f2]; exact f3
    have plt : phi a c' < l.length := by unfold phi; split <;> omega
    have h1 := ho.first plt tc
    have h2 := ho'.first hb2 tb'
    rcases h1 with h1 | h1
    · omega
    rcases h2 with h2 | h2
    · have : c' = b' := by omega
      rw [this, hb1]
    · exfalso
      refine Bef.not (cmp_cL l) h1 ?_
      have g1 := less_get ha f2
      have g2 := less_get ha hb2
      rw [hb1] at g2
      unfold Bef cL at h2 ⊢
      simp only [Int.toNat_natCast] at h2 ⊢
      rw [g1, g2] at h2
      rcases h2 with h2 | ⟨h2, h3⟩
      · exact .inl h2
      · refine .inr ⟨h2, ?_⟩
        have : phi a c' < phi a b' := by unfold phi; split <;> split <;> omega
        omega

set_option maxHeartbeats 2000000 in
theorem policyOthers_cl (x y : Int) (n : Bool) (l : List D) (away : Int) (hj : AllJ l) (hs : ∀ d, d ∈ l → (d.cell 13).els.length ≤ 9223372036854775807) : Cl ty tab 6 [.agg [.int .u8 x, .int .u8 y], .sl 39 n l, .int .i64 away] = some [.bool true] := by
  refine s_gatepathlaw44_PolicyOthers 2000 x y n l away ?_
  unfold gatepathlaw44_PolicyOthers
  have hg := great_ok n l hj hs
  cases g : greatL l
  case true => simp (disch := omega) only [decide_true, decide_false, if_true, if_false, Bool.false_eq_true, Bool.true_eq_false, eq_self, Bool.true_or, Bool.false_or, Bool.true_and, Bool.false_and, Bool.or_true, Bool.or_false, Bool.and_true, Bool.and_false, List.getD_cons_zero, List.getD_cons_succ, cell_int, cell_bool, cell_str, cell_sl, cell_agg, i_int, b_bool, s_str, nb_sl, els_sl, nb_ov, els_ov, cs_pv, cs_agg, Int.toNat_natCast, toNat_sub1, toNat_add1, List.length_map, getD_map, ct, cf, beqd, bned, cp, cn, cnp, cnn, if_pos, if_neg, wrap64, Option.bind_some, Bool.not_true, Bool.not_false, List.isEmpty_nil, List.nil_append, List.length_nil, List.length_cons, Nat.zero_add, alive_is, hg, g]
  by_cases hc : checkF x y l = 0
  case neg => simp (disch := omega) only [decide_true, decide_false, if_true, if_false, Bool.false_eq_true, Bool.true_eq_false, eq_self, Bool.true_or, Bool.false_or, Bool.true_and, Bool.false_and, Bool.or_true, Bool.or_false, Bool.and_true, Bool.and_false, List.getD_cons_zero, List.getD_cons_succ, cell_int, cell_bool, cell_str, cell_sl, cell_agg, i_int, b_bool, s_str, nb_sl, els_sl, nb_ov, els_ov, cs_pv, cs_agg, Int.toNat_natCast, toNat_sub1, toNat_add1, List.length_map, getD_map, ct, cf, beqd, bned, cp, cn, cnp, cnn, if_pos, if_neg, wrap64, Option.bind_some, Bool.not_true, Bool.not_false, List.isEmpty_nil, List.nil_append, List.length_nil, List.length_cons, Nat.zero_add, alive_is, hg, g, order_no x y n l hj hc, hc, ne_eq, not_false_eq_true]; rfl
  have hl := small_of2 hc g
  obtain ⟨hx, hy, _, hr⟩ := checkF_zero hc
  obtain ⟨nb, o, eo, ho⟩ := order_ok x y n l hj hc hl
  have olen := ho.len
  have lp := iter_ix (F := gatepathlaw44_PolicyOthers.b0 (Cl ty tab) 2000 n l away [.bool true] [.ov 3 nb (o.map (D.int .i64)), .int .i64 0]) o.length (fun i => [.int .i64 i, .pv [.int .u8 x, .int .u8 y], .ov 3 nb (o.map (D.int .i64))]) (fun _ => some [.bool true]) (fun i hi again ha => ?_) (fun again => ?_) 2000 (by omega) 0 (by omega)
  · simp (disch := omega) only [decide_true, decide_false, if_true, if_false, Bool.false_eq_true, Bool.true_eq_false, eq_self, Bool.true_or, Bool.false_or, Bool.true_and, Bool.false_and, Bool.or_true, Bool.or_false, Bool.and_true, Bool.and_false, List.getD_cons_zero, List.getD_cons_succ, cell_int, cell_bool, cell_str, cell_sl, cell_agg, i_int, b_bool, s_str, nb_sl, els_sl, nb_ov, els_ov, cs_pv, cs_agg, Int.toNat_natCast, toNat_sub1, toNat_add1, List.length_map, getD_map, ct, cf, beqd, bned, cp, cn, cnp, cnn, if_pos, if_neg, wrap64, Option.bind_some, Bool.not_true, Bool.not_false, List.isEmpty_nil, List.nil_append, List.length_nil, List.length_cons, Nat.zero_add, alive_is, hg, g, eo, ne_eq, not_true_eq_false]
    exact lp
  · rw [Int.natCast_add, Int.natCast_one] at ha
    unfold gatepathlaw44_PolicyOthers.b0
    obtain ⟨z, e1, e2, e3⟩ := (ho.mem o[i]).1 (List.getElem_mem hi)
    have dz := hj.get e2
    have rz : rightJ (l.getD z .undef) = true := by rw [getD_get e2]; exact hr _ (List.getElem_mem e2)
    have acc := acc_yes2 dz rz hx hy
    rw [e3] at acc
    by_cases i0 : i = 0
    · subst i0
      simp (disch := omega) only [decide_true, decide_false, if_true, if_false, Bool.false_eq_true, Bool.true_eq_false, eq_self, Bool.true_or, Bool.false_or, Bool.true_and, Bool.false_and, Bool.or_true, Bool.or_false, Bool.and_true, Bool.and_false, List.getD_cons_zero, List.getD_cons_succ, cell_int, cell_bool, cell_str, cell_sl, cell_agg, i_int, b_bool, s_str, nb_sl, els_sl, nb_ov, els_ov, cs_pv, cs_agg, Int.toNat_natCast, toNat_sub1, toNat_add1, List.length_map, getD_map, ct, cf, beqd, bned, cp, cn, cnp, cnn, if_pos, if_neg, wrap64, Option.bind_some, Bool.not_true, Bool.not_false, List.isEmpty_nil, List.nil_append, List.length_nil, List.length_cons, Nat.zero_add, e1, acc, ne_eq, not_true_eq_false]
      exact ha
    · obtain ⟨j, rfl⟩ : ∃ j, i = j + 1 := ⟨i - 1, by omega⟩
      have hjl : j < o.length := by omega
      obtain ⟨w, f1, f2, f3⟩ := (ho.mem o[j]).1 (List.getElem_mem hjl)
      have dw := hj.get f2
      have rw' : rightJ (l.getD w .undef) = true := by rw [getD_get f2]; exact hr _ (List.getElem_mem f2)
      have cy := cmp_yes dw dz rw' rz
      have bf := List.pairwise_iff_getElem.1 ho.srt j (j + 1) hjl hi (by omega)
      rw [e1, f1] at bf
      unfold Bef cL at bf
      simp only [Int.toNat_natCast] at bf
      have ej : (((j + 1 : Nat) : Int) - 1).toNat = j := by omega
      have edw := dw.eta
      have edz := dz.eta
      generalize cmpJ (l.getD w .undef) (l.getD z .undef) = v at *
      clear ho
      rcases bf with bf | ⟨bf, bz⟩
      · simp (disch := omega) only [decide_true, decide_false, if_true, if_false, Bool.false_eq_true, Bool.true_eq_false, eq_self, Bool.true_or, Bool.false_or, Bool.true_and, Bool.false_and, Bool.or_true, Bool.or_false, Bool.and_true, Bool.and_false, List.getD_cons_zero, List.getD_cons_succ, cell_int, cell_bool, cell_str, cell_sl, cell_agg, i_int, b_bool, s_str, nb_sl, els_sl, nb_ov, els_ov, cs_pv, cs_agg, Int.toNat_natCast, toNat_sub1, toNat_add1, List.length_map, getD_map, ct, cf, beqd, bned, cp, cn, cnp, cnn, if_pos, if_neg, wrap64, Option.bind_some, Bool.not_true, Bool.not_false, List.isEmpty_nil, List.nil_append, List.length_nil, List.length_cons, Nat.zero_add, e1, f1, ej, acc, edw, edz, cy, ne_eq, not_true_eq_false]
        exact ha
      · subst bf
        simp (disch := omega) only [decide_true, decide_false, if_true, if_false, Bool.false_eq_true, Bool.true_eq_false, eq_self, Bool.true_or, Bool.false_or, Bool.true_and, Bool.false_and, Bool.or_true, Bool.or_false, Bool.and_true, Bool.and_false, List.getD_cons_zero, List.getD_cons_succ, cell_int, cell_bool, cell_str, cell_sl, cell_agg, i_int, b_bool, s_str, nb_sl, els_sl, nb_ov, els_ov, cs_pv, cs_agg, Int.toNat_natCast, toNat_sub1, toNat_add1, List.length_map, getD_map, ct, cf, beqd, bned, cp, cn, cnp, cnn, if_pos, if_neg, wrap64, Option.bind_some, Bool.not_true, Bool.not_false, List.isEmpty_nil, List.nil_append, List.length_nil, List.length_cons, Nat.zero_add, e1, f1, ej, acc, edw, edz, cy, ne_eq, not_true_eq_false]
        exact ha
  · unfold gatepathlaw44_PolicyOthers.b0
    cases hd : diffs l
    case true => simp (disch := omega) only [decide_true, decide_false, if_true, if_false, Bool.false_eq_true, Bool.true_eq_false, eq_self, Bool.true_or, Bool.false_or, Bool.true_and, Bool.false_and, Bool.or_true, Bool.or_false, Bool.and_true, Bool.and_false, List.getD_cons_zero, List.getD_cons_succ, cell_int, cell_bool, cell_str, cell_sl, cell_agg, i_int, b_bool, s_str, nb_sl, els_sl, nb_ov, els_ov, cs_pv, cs_agg, Int.toNat_natCast, toNat_sub1, toNat_add1, List.length_map, getD_map, ct, cf, beqd, bned, cp, cn, cnp, cnn, if_pos, if_neg, wrap64, Option.bind_some, Bool.not_true, Bool.not_false, List.isEmpty_nil, List.nil_append, List.length_nil, List.length_cons, Nat.zero_add, best_diff x y n l hj hc hl hd, ne_eq, not_true_eq_false, not_false_eq_true]
    have hb := best_ok x y n l hj hc hl hd o ho
    cases o with
    | nil =>
      simp only [List.headD_nil] at hb
      simp only [List.map_nil]
      simp (disch := omega) only [decide_true, decide_false, if_true, if_false, Bool.false_eq_true, Bool.true_eq_false, eq_self, Bool.true_or, Bool.false_or, Bool.true_and, Bool.false_and, Bool.or_true, Bool.or_false, Bool.and_true, Bool.and_false, List.getD_cons_zero, List.getD_cons_succ, cell_int, cell_bool, cell_str, cell_sl, cell_agg, i_int, b_bool, s_str, nb_sl, els_sl, nb_ov, els_ov, cs_pv, cs_agg, Int.toNat_natCast, toNat_sub1, toNat_add1, List.length_map, getD_map, ct, cf, beqd, bned, cp, cn, cnp, cnn, if_pos, if_neg, wrap64, Option.bind_some, Bool.not_true, Bool.not_false, List.isEmpty_nil, List.nil_append, List.length_nil, List.length_cons, Nat.zero_add, hb, ne_eq, not_true_eq_false]
    | cons b t =>
      simp only [List.headD_cons] at hb
      simp only [List.map_cons]
      obtain ⟨bi, e1, e2, e3⟩ := ho.head
      subst e1
      by_cases c1 : away < 0
      · simp (disch := omega) only [decide_true, decide_false, if_true, if_false, Bool.false_eq_true, Bool.true_eq_false, eq_self, Bool.true_or, Bool.false_or, Bool.true_and, Bool.false_and, Bool.or_true, Bool.or_false, Bool.and_true, Bool.and_false, List.getD_cons_zero, List.getD_cons_succ, cell_int, cell_bool, cell_str, cell_sl, cell_agg, i_int, b_bool, s_str, nb_sl, els_sl, nb_ov, els_ov, cs_pv, cs_agg, Int.toNat_natCast, toNat_sub1, toNat_add1, List.length_map, getD_map, ct, cf, beqd, bned, cp, cn, cnp, cnn, if_pos, if_neg, wrap64, Option.bind_some, Bool.not_true, Bool.not_false, List.isEmpty_nil, List.nil_append, List.length_nil, List.length_cons, Nat.zero_add, hb, ne_eq, not_true_eq_false]
      by_cases c2 : (l.length : Int) ≤ away
      · simp (disch := omega) only [decide_true, decide_false, if_true, if_false, Bool.false_eq_true, Bool.true_eq_false, eq_self, Bool.true_or, Bool.false_or, Bool.true_and, Bool.false_and, Bool.or_true, Bool.or_false, Bool.and_true, Bool.and_false, List.getD_cons_zero, List.getD_cons_succ, cell_int, cell_bool, cell_str, cell_sl, cell_agg, i_int, b_bool, s_str, nb_sl, els_sl, nb_ov, els_ov, cs_pv, cs_agg, Int.toNat_natCast, toNat_sub1, toNat_add1, List.length_map, getD_map, ct, cf, beqd, bned, cp, cn, cnp, cnn, if_pos, if_neg, wrap64, Option.bind_some, Bool.not_true, Bool.not_false, List.isEmpty_nil, List.nil_append, List.length_nil, List.length_cons, Nat.zero_add, hb, ne_eq, not_true_eq_false]
      by_cases c3 : away = bi
      · simp (disch := omega) only [decide_true, decide_false, if_true, if_false, Bool.false_eq_true, Bool.true_eq_false, eq_self, Bool.true_or, Bool.false_or, Bool.true_and, Bool.false_and, Bool.or_true, Bool.or_false, Bool.and_true, Bool.and_false, List.getD_cons_zero, List.getD_cons_succ, cell_int, cell_bool, cell_str, cell_sl, cell_agg, i_int, b_bool, s_str, nb_sl, els_sl, nb_ov, els_ov, cs_pv, cs_agg, Int.toNat_natCast, toNat_sub1, toNat_add1, List.length_map, getD_map, ct, cf, beqd, bned, cp, cn, cnp, cnn, if_pos, if_neg, wrap64, Option.bind_some, Bool.not_true, Bool.not_false, List.isEmpty_nil, List.nil_append, List.length_nil, List.length_cons, Nat.zero_add, hb, ne_eq, not_true_eq_false]
      obtain ⟨a, rfl⟩ : ∃ a : Nat, away = a := ⟨away.toNat, by omega⟩
      have ha : a < l.length := by omega
      have hn := less_len ha
      have hj' : AllJ (lessL l a) := fun d h => hj d (less_mem h)
      have hc' : checkF x y (lessL l a) = 0 := checkF_of hx hy (by omega) fun d h => hr d (less_mem h)
      have hd' := diffs_less ha hd
      obtain ⟨o', ho'⟩ := order_ex x y (lessL l a) hj' hc' (by omega)
      obtain ⟨c, k1, k2, k3⟩ := best_stays ha ho ho' (by omega)
      have hb' := fun n' => best_ok x y n' (lessL l a) hj' hc' (by omega) hd' o' ho'
      rw [k1] at hb'
      have t1 : (l.drop 0).take (a - 0) = l.take a := by simp
      have t2 : (l.drop (a + 1)).take (l.length - (a + 1)) = l.drop (a + 1) := List.take_of_length_le (by rw [List.length_drop]; omega)
      have t3 : l.take a ++ l.drop (a + 1) = lessL l a := rfl
      have t4 : (l.take a).length ≤ l.length := by rw [List.length_take]; omega
      have t5 : (l.drop (a + 1)).length ≤ l.length := by rw [List.length_drop]; omega
      have z0 : (0 : Int).toNat = 0 := rfl
      have ltl : (List.length (List.take a l)) = a := by rw [List.length_take]; omega
      have ldl : (List.length (List.drop (a + 1) l)) = l.length - (a + 1) := by rw [List.length_drop]
      clear ho ho' hg g eo hr hj hj' hc hc' hd hd'
      unfold phi at k2
      by_cases ca : c < a
      · rw [if_pos ca] at k2
        subst k2
        simp (disch := omega) only [decide_true, decide_false, if_true, if_false, Bool.false_eq_true, Bool.true_eq_false, eq_self, Bool.true_or, Bool.false_or, Bool.true_and, Bool.false_and, Bool.or_true, Bool.or_false, Bool.and_true, Bool.and_false, List.getD_cons_zero, List.getD_cons_succ, cell_int, cell_bool, cell_str, cell_sl, cell_agg, i_int, b_bool, s_str, nb_sl, els_sl, nb_ov, els_ov, cs_pv, cs_agg, Int.toNat_natCast, toNat_sub1, toNat_add1, List.length_map, getD_map, ct, cf, beqd, bned, cp, cn, cnp, cnn, if_pos, if_neg, wrap64, Option.bind_some, Bool.not_true, Bool.not_false, List.isEmpty_nil, List.nil_append, List.length_nil, List.length_cons, Nat.zero_add, hb, ne_eq, not_true_eq_false, z0, toNat_add1, t1, t2, ltl, ldl, t3, hb']
      · rw [if_neg ca] at k2
        have k3' : (c : Int) + 1 = bi := by omega
        simp (disch := omega) only [decide_true, decide_false, if_true, if_false, Bool.false_eq_true, Bool.true_eq_false, eq_self, Bool.true_or, Bool.false_or, Bool.true_and, Bool.false_and, Bool.or_true, Bool.or_false, Bool.and_true, Bool.and_false, List.getD_cons_zero, List.getD_cons_succ, cell_int, cell_bool, cell_str, cell_sl, cell_agg, i_int, b_bool, s_str, nb_sl, els_sl, nb_ov, els_ov, cs_pv, cs_agg, Int.toNat_natCast, toNat_sub1, toNat_add1, List.length_map, getD_map, ct, cf, beqd, bned, cp, cn, cnp, cnn, if_pos, if_neg, wrap64, Option.bind_some, Bool.not_true, Bool.not_false, List.isEmpty_nil, List.nil_append, List.length_nil, List.length_cons, Nat.zero_add, hb, ne_eq, not_true_eq_false, z0, toNat_add1, t1, t2, ltl, ldl, t3, hb', k3']

theorem policyOthers_law : LawTrue ty tab 6 [⟨true, [.int .u8, .int .u8]⟩, ⟨false, [.sl 39]⟩, ⟨false, [.int .i64]⟩] := by
  refine lawTrue_of fun dd hf hw => ?_
  obtain ⟨d1, dd, rfl, h1, hf⟩ := fitsV_cons hf
  obtain ⟨d2, dd, rfl, h2, hf⟩ := fitsV_cons hf
  obtain ⟨d3, dd, rfl, h3, hf⟩ := fitsV_cons hf
  obtain rfl := fitsV_nil hf
  obtain ⟨cs, rfl, hcs⟩ := fits_agg h1
  obtain ⟨e1, cs, rfl, g1, hcs⟩ := fitsL_cons hcs
  obtain ⟨e2, cs, rfl, g2, hcs⟩ := fitsL_cons hcs
  obtain rfl := fitsL_nil hcs
  obtain ⟨x, rfl⟩ := fits_int g1
  obtain ⟨y, rfl⟩ := fits_int g2
  have w2 := hw d2 (by simp)
  obtain ⟨n, l, rfl, hj, hs⟩ := judged_of h2 w2
  obtain ⟨z, rfl⟩ := fits_int (fits_one h3)
  exact policyOthers_cl x y n l z hj hs

end Go.Proofs.Ytekkbhmlocageaa.Own
