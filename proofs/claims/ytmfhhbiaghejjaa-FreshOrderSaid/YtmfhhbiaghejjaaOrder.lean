import Derived.Test.YtmfhhbiaghejjaaO
import Derived.Test.YtmfhhbiaghejjaaAlive
import Derived.Test.YtmfhhbiaghejjaaRFreshOrder
namespace Go.Proofs.Ytmfhhbiaghejjaa.Own
open Go Go.Proofs.Ytmfhhbiaghejjaa.GD
set_option linter.unusedVariables false
set_option linter.unusedSimpArgs false

theorem fine_eo {els : List D} {nb : Bool} (h : WT ty (.sl 47 nb els)) : Fine els := by
  obtain ⟨hl, hn, hf, hw⟩ := h.els
  exact ⟨hl, fun d hd => hf ⟨true, ks0⟩ (by rfl) d hd⟩

theorem alive_oo : Cl ty tab 24 [] = some [.bool true] := Cl_eq.2 alive_ev

/-! the laws of joining -/
theorem cmpt_iff (x y : D) : cmpt x y = true ↔ hsh x = hsh y ∧ frm x = frm y ∧ til x = til y := by
  unfold cmpt
  rw [Bool.and_eq_true, Bool.and_eq_true, hsh_eq, beq_iff_eq, beq_iff_eq]

theorem rec_ext {x y : D} (hx : Fit x) (hy : Fit y) (h0 : uri x = uri y) (h1 : num x = num y) (h2 : cmpt x y = true) (h3 : seen x = seen y) : x = y := by
  obtain ⟨e1, e2, e3⟩ := (cmpt_iff x y).1 h2
  rw [← rec_eta hx, ← rec_eta hy, h1, e1, e2, e3, h3, show (x.cell 0).s = (y.cell 0).s from str_inj h0]

theorem joinF_comm {x y : D} (hx : Fit x) (hy : Fit y) (h0 : uri x = uri y) : joinF x y = joinF y x := by
  have hc : cmpt x y = true ↔ cmpt y x = true := by rw [cmpt_iff, cmpt_iff]; constructor <;> (rintro ⟨a, b, c⟩; exact ⟨a.symm, b.symm, c.symm⟩)
  unfold joinF
  by_cases h1 : num y < num x
  · rw [if_pos h1, if_neg (by omega), if_pos h1]
  · by_cases h2 : num x < num y
    · rw [if_neg h1, if_pos h2, if_pos h2]
    · rw [if_neg h1, if_neg h2, if_neg h2, if_neg h1]
      by_cases h3 : cmpt x y = true
      · rw [if_pos h3, if_pos (hc.1 h3)]
        congr 1
        by_cases h4 : seen x < seen y
        · rw [if_pos h4, if_neg (by omega)]
        · rw [if_neg h4]
          by_cases h5 : seen y < seen x
          · rw [if_pos h5]
          · rw [if_neg h5]
            exact rec_ext hx hy h0 (by omega) h3 (by omega)
      · rw [if_neg h3, if_neg (fun h => h3 (hc.2 h))]

theorem joinF_self (x : D) : joinF x x = some x := by
  unfold joinF
  rw [if_neg (by omega), if_neg (by omega), if_pos ((cmpt_iff x x).2 ⟨rfl, rfl, rfl⟩), if_neg (by omega)]

/-- the greater of two, and what their joining shows -/
theorem joinF_top {x y w : D} (h : joinF x y = some w) : (w = x ∨ w = y) ∧ (num y < num w ∨ num y = num w ∧ seen y ≤ seen w) ∧ (num x < num w ∨ num x = num w ∧ seen x ≤ seen w) ∧ (num x = num y → cmpt x y = true) := by
  unfold joinF at h
  by_cases h1 : num y < num x
  · rw [if_pos h1] at h
    cases h
    exact ⟨.inl rfl, by omega, by omega, fun h => by omega⟩
  · by_cases h2 : num x < num y
    · rw [if_neg h1, if_pos h2] at h
      cases h
      exact ⟨.inr rfl, by omega, by omega, fun h => by omega⟩
    · rw [if_neg h1, if_neg h2] at h
      by_cases h3 : cmpt x y = true
      · rw [if_pos h3] at h
        by_cases h4 : seen x < seen y
        · rw [if_pos h4] at h
          cases h
          exact ⟨.inr rfl, by omega, by omega, fun _ => h3⟩
        · rw [if_neg h4] at h
          cases h
          exact ⟨.inl rfl, by omega, by omega, fun _ => h3⟩
      · rw [if_neg h3] at h
        cases h

theorem cmpt_tr {x y z : D} (h1 : cmpt x y = true) (h2 : cmpt y z = true) : cmpt x z = true := by
  rw [cmpt_iff] at *
  exact ⟨h1.1.trans h2.1, h1.2.1.trans h2.2.1, h1.2.2.trans h2.2.2⟩

theorem cmpt_sy {x y : D} (h1 : cmpt x y = true) : cmpt y x = true := by
  rw [cmpt_iff] at *
  exact ⟨h1.1.symm, h1.2.1.symm, h1.2.2.symm⟩

theorem joinF_assoc {x y z p q r s : D} (hx : Fit x) (hy : Fit y) (hz : Fit z) (h1 : uri x = uri y) (h2 : uri y = uri z) (a1 : joinF x y = some p) (a2 : joinF y z = some q) (a3 : joinF p z = some r) (a4 : joinF x q = some s) : r = s := by
  obtain ⟨b1, b2, b3, b4⟩ := joinF_top a1
  obtain ⟨c1, c2, c3, c4⟩ := joinF_top a2
  obtain ⟨d1, d2, d3, d4⟩ := joinF_top a3
  obtain ⟨e1, e2, e3, e4⟩ := joinF_top a4
  have hr : r = x ∨ r = y ∨ r = z := by rcases d1 with rfl | rfl; rcases b1 with rfl | rfl <;> simp; simp
  have hs : s = x ∨ s = y ∨ s = z := by rcases e1 with rfl | rfl; simp; rcases c1 with rfl | rfl <;> simp
  have fr : Fit r ∧ uri r = uri y := by rcases hr with rfl | rfl | rfl; exact ⟨hx, h1⟩; exact ⟨hy, rfl⟩; exact ⟨hz, h2.symm⟩
  have fs : Fit s ∧ uri s = uri y := by rcases hs with rfl | rfl | rfl; exact ⟨hx, h1⟩; exact ⟨hy, rfl⟩; exact ⟨hz, h2.symm⟩
  have n1 : num r = num s ∧ seen r = seen s := by
    have : num s < num r ∨ num s = num r ∧ seen s ≤ seen r := by rcases hs with rfl | rfl | rfl <;> omega
    have : num r < num s ∨ num r = num s ∧ seen r ≤ seen s := by rcases hr with rfl | rfl | rfl <;> omega
    omega
  refine rec_ext fr.1 fs.1 (fr.2.trans fs.2.symm) n1.1 ?_ n1.2
  have rf : ∀ w : D, cmpt w w = true := fun w => (cmpt_iff w w).2 ⟨rfl, rfl, rfl⟩
  rcases hr with rfl | rfl | rfl
  · rcases hs with rfl | rfl | rfl
    · exact rf _
    · exact b4 n1.1
    · rcases c1 with rfl | rfl
      · have h5 := c4 (by omega)
        exact cmpt_tr (e4 (by omega)) h5
      · exact e4 n1.1
  · rcases hs with rfl | rfl | rfl
    · exact cmpt_sy (b4 n1.1.symm)
    · exact rf _
    · exact c4 n1.1
  · rcases hs with rfl | rfl | rfl
    · rcases b1 with rfl | rfl
      · exact cmpt_sy (d4 n1.1.symm)
      · have h5 := d4 (by omega)
        exact cmpt_sy (cmpt_tr (b4 (by omega)) h5)
    · exact cmpt_sy (c4 n1.1.symm)
    · exact rf _

/-! the laws of zipping -/
theorem comb_comm {a b : List D} (ha : ∀ d, d ∈ a → Fit d) (hb : ∀ d, d ∈ b → Fit d) (u : List UInt8) : comb (look a u) (look b u) = comb (look b u) (look a u) := by
  cases h1 : look a u with
  | none => rw [comb_none]; rfl
  | some x =>
    cases h2 : look b u with
    | none => rfl
    | some y => exact joinF_comm (ha x (look_mem h1).1) (hb y (look_mem h2).1) ((look_mem h1).2.trans (look_mem h2).2.symm)

theorem zip_comm {a b : List D} (ha : Asc a) (hb : Asc b) (fa : ∀ d, d ∈ a → Fit d) (fb : ∀ d, d ∈ b → Fit d) : zipF a b = zipF b a := by
  have key : ∀ {a b : List D}, Asc a → Asc b → (∀ d, d ∈ a → Fit d) → (∀ d, d ∈ b → Fit d) → zipF a b = none → ∀ z, zipF b a = some z → False := by
    intro a b ha hb fa fb h z hz
    obtain ⟨u, x, y, e1, e2, e3⟩ := zip_none a b ha hb h
    refine (zip_some b a z hb ha hz).ok u y x e2 e1 ?_
    rw [joinF_comm (fb y (look_mem e2).1) (fa x (look_mem e1).1) ((look_mem e2).2.trans (look_mem e1).2.symm)]
    exact e3
  cases h1 : zipF a b with
  | none =>
    cases h2 : zipF b a with
    | none => rfl
    | some z => exact (key ha hb fa fb h1 z h2).elim
  | some z =>
    cases h2 : zipF b a with
    | none => exact (key hb ha fb fa h2 z h1).elim
    | some y =>
      have q1 := zip_some a b z ha hb h1
      have q2 := zip_some b a y hb ha h2
      congr 1
      exact asc_ext q1.asc q2.asc fun u => by rw [q1.lk, q2.lk, comb_comm fa fb]

theorem zip_self {a : List D} (ha : Asc a) : zipF a a = some a := by
  cases h : zipF a a with
  | none =>
    obtain ⟨u, x, y, e1, e2, e3⟩ := zip_none a a ha ha h
    rw [e1] at e2
    cases e2
    rw [joinF_self] at e3
    cases e3
  | some z =>
    have q := zip_some a a z ha ha h
    congr 1
    refine asc_ext q.asc ha fun u => ?_
    rw [q.lk]
    cases look a u with
    | none => rfl
    | some x => exact joinF_self x

theorem zip_assoc {a b c x z l r : List D} (ha : Asc a) (hb : Asc b) (hc : Asc c) (fa : ∀ d, d ∈ a → Fit d) (fb : ∀ d, d ∈ b → Fit d) (fc : ∀ d, d ∈ c → Fit d)
    (h1 : zipF a b = some x) (h2 : zipF b c = some z) (h3 : zipF x c = some l) (h4 : zipF a z = some r) : l = r := by
  have q1 := zip_some a b x ha hb h1
  have q2 := zip_some b c z hb hc h2
  have q3 := zip_some x c l q1.asc hc h3
  have q4 := zip_some a z r ha q2.asc h4
  refine asc_ext q3.asc q4.asc fun u => ?_
  have k1 := q1.lk u
  have k2 := q2.lk u
  have k3 := q3.lk u
  have k4 := q4.lk u
  cases e1 : look a u with
  | none =>
    rw [e1] at k1 k4
    have k1 : look x u = look b u := k1
    have k4 : look r u = look z u := k4
    rw [k4, k2, k3, k1]
  | some d1 =>
    cases e2 : look b u with
    | none =>
      rw [e1, e2] at k1
      rw [e2] at k2
      have k1 : look x u = some d1 := k1
      have k2 : look z u = look c u := k2
      rw [k3, k4, k1, k2, e1]
    | some d2 =>
      cases e3 : look c u with
      | none =>
        rw [e2, e3] at k2
        rw [e3, comb_none] at k3
        have k2 : look z u = some d2 := k2
        rw [k3, k4, k1, k2, e1, e2]
      | some d3 =>
        rw [e1, e2] at k1
        rw [e2, e3] at k2
        have k1 : look x u = joinF d1 d2 := k1
        have k2 : look z u = joinF d2 d3 := k2
        have n1 := q1.ok u d1 d2 e1 e2
        have n2 := q2.ok u d2 d3 e2 e3
        cases j1 : joinF d1 d2 with
        | none => exact (n1 j1).elim
        | some p =>
          cases j2 : joinF d2 d3 with
          | none => exact (n2 j2).elim
          | some q =>
            rw [j1] at k1
            rw [j2] at k2
            rw [k1, e3] at k3
            rw [e1, k2] at k4
            have k3 : look l u = joinF p d3 := k3
            have k4 : look r u = joinF d1 q := k4
            have n3 := q3.ok u p d3 k1 e3
            have n4 := q4.ok u d1 q e1 k2
            rw [k3, k4]
            cases j3 : joinF p d3 with
            | none => exact (n3 j3).elim
            | some v =>
              cases j4 : joinF d1 q with
              | none => exact (n4 j4).elim
              | some w =>
                congr 1
                have m1 := look_mem e1
                have m2 := look_mem e2
                have m3 := look_mem e3
                exact joinF_assoc (fa _ m1.1) (fb _ m2.1) (fc _ m3.1) (m1.2.trans m2.2.symm) (m2.2.trans m3.2.symm) j1 j2 j3 j4

theorem merge_cases (a b : List D) : (∃ e, e ≠ 0 ∧ mergeR a b (·.isEmpty) = [.ov 47 true [], .int .i64 e]) ∨ (checkF a = 0 ∧ checkF b = 0 ∧ ∃ z, zipF a b = some z ∧ mergeR a b (·.isEmpty) = [.ov 47 z.isEmpty z, .int .i64 0] ∧ z.length ≤ 200) := by
  unfold mergeR
  by_cases c1 : checkF a = 0
  case neg => exact .inl ⟨checkF a, c1, if_pos c1⟩
  by_cases c2 : checkF b = 0
  case neg => exact .inl ⟨checkF b, c2, by rw [if_neg (fun h => h c1), if_pos c2]⟩
  rw [if_neg (fun h => h c1), if_neg (fun h => h c2)]
  cases h : zipF a b with
  | none => exact .inl ⟨14, by omega, rfl⟩
  | some z =>
    by_cases h2 : 200 < z.length
    · exact .inl ⟨16, by omega, if_pos h2⟩
    · exact .inr ⟨c1, c2, z, rfl, if_neg h2, by omega⟩

theorem merge_comm {a b : List D} (ha : Fine a) (hb : Fine b) (c1 : checkF a = 0) (c2 : checkF b = 0) (f : List D → Bool) : mergeR b a f = mergeR a b f := by
  have h1 := check_zero c1
  have h2 := check_zero c2
  unfold mergeR
  rw [if_neg (fun h => h c2), if_neg (fun h => h c1), if_neg (fun h => h c1), if_neg (fun h => h c2), zip_comm h2.2.1 h1.2.1 hb.fit ha.fit]

theorem fine_zip {a b z : List D} (ha : Fine a) (hb : Fine b) (c1 : checkF a = 0) (c2 : checkF b = 0) (h : zipF a b = some z) (hl : z.length ≤ 200) : Fine z := by
  have q := zip_some a b z (check_zero c1).2.1 (check_zero c2).2.1 h
  exact ⟨by omega, fun d hd => by rcases q.mem d hd with h | h; exact ha.fit d h; exact hb.fit d h⟩

theorem freshOrder_cl (n m o : Bool) (a b c : List D) (ha : Fine a) (hb : Fine b) (hc : Fine c) : Cl ty tab 9 [.sl 47 n a, .sl 47 m b, .sl 47 o c] = some [.bool true] := by
  refine s_gatepathlaw29_FreshOrder 0 _ _ _ _ _ _ ?_
  unfold gatepathlaw29_FreshOrder
  by_cases s1 : 60 < a.length
  · simp (disch := omega) only [decide_true, decide_false, if_true, if_false, Bool.false_eq_true, Bool.true_eq_false, eq_self, Bool.true_or, Bool.false_or, Bool.true_and, Bool.false_and, Bool.or_true, Bool.or_false, Bool.and_true, Bool.and_false, List.getD_cons_zero, List.getD_cons_succ, cell_int, cell_bool, cell_str, cell_sl, cell_agg, i_int, b_bool, s_str, nb_sl, els_sl, nb_ov, els_ov, cs_pv, cs_agg, Int.toNat_natCast, toNat_sub1, toNat_add1, List.length_map, getD_map, ct, cf, beqd, bned, cp, cn, cnp, cnn, if_pos, if_neg, wrap64, Option.bind_some, Bool.not_true, Bool.not_false, List.isEmpty_nil, List.nil_append, List.length_nil, List.length_cons, Nat.zero_add, alive_oo]
  by_cases s2 : 60 < b.length
  · simp (disch := omega) only [decide_true, decide_false, if_true, if_false, Bool.false_eq_true, Bool.true_eq_false, eq_self, Bool.true_or, Bool.false_or, Bool.true_and, Bool.false_and, Bool.or_true, Bool.or_false, Bool.and_true, Bool.and_false, List.getD_cons_zero, List.getD_cons_succ, cell_int, cell_bool, cell_str, cell_sl, cell_agg, i_int, b_bool, s_str, nb_sl, els_sl, nb_ov, els_ov, cs_pv, cs_agg, Int.toNat_natCast, toNat_sub1, toNat_add1, List.length_map, getD_map, ct, cf, beqd, bned, cp, cn, cnp, cnn, if_pos, if_neg, wrap64, Option.bind_some, Bool.not_true, Bool.not_false, List.isEmpty_nil, List.nil_append, List.length_nil, List.length_cons, Nat.zero_add, alive_oo]
  by_cases s3 : 60 < c.length
  · simp (disch := omega) only [decide_true, decide_false, if_true, if_false, Bool.false_eq_true, Bool.true_eq_false, eq_self, Bool.true_or, Bool.false_or, Bool.true_and, Bool.false_and, Bool.or_true, Bool.or_false, Bool.and_true, Bool.and_false, List.getD_cons_zero, List.getD_cons_succ, cell_int, cell_bool, cell_str, cell_sl, cell_agg, i_int, b_bool, s_str, nb_sl, els_sl, nb_ov, els_ov, cs_pv, cs_agg, Int.toNat_natCast, toNat_sub1, toNat_add1, List.length_map, getD_map, ct, cf, beqd, bned, cp, cn, cnp, cnn, if_pos, if_neg, wrap64, Option.bind_some, Bool.not_true, Bool.not_false, List.isEmpty_nil, List.nil_append, List.length_nil, List.length_cons, Nat.zero_add, alive_oo]
  simp (disch := omega) only [decide_true, decide_false, if_true, if_false, Bool.false_eq_true, Bool.true_eq_false, eq_self, Bool.true_or, Bool.false_or, Bool.true_and, Bool.false_and, Bool.or_true, Bool.or_false, Bool.and_true, Bool.and_false, List.getD_cons_zero, List.getD_cons_succ, cell_int, cell_bool, cell_str, cell_sl, cell_agg, i_int, b_bool, s_str, nb_sl, els_sl, nb_ov, els_ov, cs_pv, cs_agg, Int.toNat_natCast, toNat_sub1, toNat_add1, List.length_map, getD_map, ct, cf, beqd, bned, cp, cn, cnp, cnn, if_pos, if_neg, wrap64, Option.bind_some, Bool.not_true, Bool.not_false, List.isEmpty_nil, List.nil_append, List.length_nil, List.length_cons, Nat.zero_add, alive_oo, great_ok n a ha]
  cases g1 : greatF a
  case true => simp (disch := omega) only [decide_true, decide_false, if_true, if_false, Bool.false_eq_true, Bool.true_eq_false, eq_self, Bool.true_or, Bool.false_or, Bool.true_and, Bool.false_and, Bool.or_true, Bool.or_false, Bool.and_true, Bool.and_false, List.getD_cons_zero, List.getD_cons_succ, cell_int, cell_bool, cell_str, cell_sl, cell_agg, i_int, b_bool, s_str, nb_sl, els_sl, nb_ov, els_ov, cs_pv, cs_agg, Int.toNat_natCast, toNat_sub1, toNat_add1, List.length_map, getD_map, ct, cf, beqd, bned, cp, cn, cnp, cnn, if_pos, if_neg, wrap64, Option.bind_some, Bool.not_true, Bool.not_false, List.isEmpty_nil, List.nil_append, List.length_nil, List.length_cons, Nat.zero_add]
  simp (disch := omega) only [decide_true, decide_false, if_true, if_false, Bool.false_eq_true, Bool.true_eq_false, eq_self, Bool.true_or, Bool.false_or, Bool.true_and, Bool.false_and, Bool.or_true, Bool.or_false, Bool.and_true, Bool.and_false, List.getD_cons_zero, List.getD_cons_succ, cell_int, cell_bool, cell_str, cell_sl, cell_agg, i_int, b_bool, s_str, nb_sl, els_sl, nb_ov, els_ov, cs_pv, cs_agg, Int.toNat_natCast, toNat_sub1, toNat_add1, List.length_map, getD_map, ct, cf, beqd, bned, cp, cn, cnp, cnn, if_pos, if_neg, wrap64, Option.bind_some, Bool.not_true, Bool.not_false, List.isEmpty_nil, List.nil_append, List.length_nil, List.length_cons, Nat.zero_add, great_ok m b hb]
  cases g2 : greatF b
  case true => simp (disch := omega) only [decide_true, decide_false, if_true, if_false, Bool.false_eq_true, Bool.true_eq_false, eq_self, Bool.true_or, Bool.false_or, Bool.true_and, Bool.false_and, Bool.or_true, Bool.or_false, Bool.and_true, Bool.and_false, List.getD_cons_zero, List.getD_cons_succ, cell_int, cell_bool, cell_str, cell_sl, cell_agg, i_int, b_bool, s_str, nb_sl, els_sl, nb_ov, els_ov, cs_pv, cs_agg, Int.toNat_natCast, toNat_sub1, toNat_add1, List.length_map, getD_map, ct, cf, beqd, bned, cp, cn, cnp, cnn, if_pos, if_neg, wrap64, Option.bind_some, Bool.not_true, Bool.not_false, List.isEmpty_nil, List.nil_append, List.length_nil, List.length_cons, Nat.zero_add]
  simp (disch := omega) only [decide_true, decide_false, if_true, if_false, Bool.false_eq_true, Bool.true_eq_false, eq_self, Bool.true_or, Bool.false_or, Bool.true_and, Bool.false_and, Bool.or_true, Bool.or_false, Bool.and_true, Bool.and_false, List.getD_cons_zero, List.getD_cons_succ, cell_int, cell_bool, cell_str, cell_sl, cell_agg, i_int, b_bool, s_str, nb_sl, els_sl, nb_ov, els_ov, cs_pv, cs_agg, Int.toNat_natCast, toNat_sub1, toNat_add1, List.length_map, getD_map, ct, cf, beqd, bned, cp, cn, cnp, cnn, if_pos, if_neg, wrap64, Option.bind_some, Bool.not_true, Bool.not_false, List.isEmpty_nil, List.nil_append, List.length_nil, List.length_cons, Nat.zero_add, great_ok o c hc]
  cases g3 : greatF c
  case true => simp (disch := omega) only [decide_true, decide_false, if_true, if_false, Bool.false_eq_true, Bool.true_eq_false, eq_self, Bool.true_or, Bool.false_or, Bool.true_and, Bool.false_and, Bool.or_true, Bool.or_false, Bool.and_true, Bool.and_false, List.getD_cons_zero, List.getD_cons_succ, cell_int, cell_bool, cell_str, cell_sl, cell_agg, i_int, b_bool, s_str, nb_sl, els_sl, nb_ov, els_ov, cs_pv, cs_agg, Int.toNat_natCast, toNat_sub1, toNat_add1, List.length_map, getD_map, ct, cf, beqd, bned, cp, cn, cnp, cnn, if_pos, if_neg, wrap64, Option.bind_some, Bool.not_true, Bool.not_false, List.isEmpty_nil, List.nil_append, List.length_nil, List.length_cons, Nat.zero_add]
  have M1 := merge_ok n m a b ha hb
  have M2 := merge_ok m n b a hb ha
  by_cases ca : checkF a = 0
  case neg =>
    rcases merge_cases a b with ⟨e, e1, e2⟩ | ⟨h, _⟩
    case inr => exact (ca h).elim
    rcases merge_cases b a with ⟨f, f1, f2⟩ | ⟨_, h, _⟩
    case inr => exact (ca h).elim
    rw [e2] at M1
    rw [f2] at M2
    clear e2 f2
    simp (disch := omega) only [decide_true, decide_false, if_true, if_false, Bool.false_eq_true, Bool.true_eq_false, eq_self, Bool.true_or, Bool.false_or, Bool.true_and, Bool.false_and, Bool.or_true, Bool.or_false, Bool.and_true, Bool.and_false, List.getD_cons_zero, List.getD_cons_succ, cell_int, cell_bool, cell_str, cell_sl, cell_agg, i_int, b_bool, s_str, nb_sl, els_sl, nb_ov, els_ov, cs_pv, cs_agg, Int.toNat_natCast, toNat_sub1, toNat_add1, List.length_map, getD_map, ct, cf, beqd, bned, cp, cn, cnp, cnn, if_pos, if_neg, wrap64, Option.bind_some, Bool.not_true, Bool.not_false, List.isEmpty_nil, List.nil_append, List.length_nil, List.length_cons, Nat.zero_add, M1, M2, rcheck_ok n a ha, ca, ne_eq, not_false_eq_true, dF, beq_self_eq_true]
  by_cases cb : checkF b = 0
  case neg =>
    rcases merge_cases a b with ⟨e, e1, e2⟩ | ⟨_, h, _⟩
    case inr => exact (cb h).elim
    rcases merge_cases b a with ⟨f, f1, f2⟩ | ⟨h, _⟩
    case inr => exact (cb h).elim
    rw [e2] at M1
    rw [f2] at M2
    clear e2 f2
    simp (disch := omega) only [decide_true, decide_false, if_true, if_false, Bool.false_eq_true, Bool.true_eq_false, eq_self, Bool.true_or, Bool.false_or, Bool.true_and, Bool.false_and, Bool.or_true, Bool.or_false, Bool.and_true, Bool.and_false, List.getD_cons_zero, List.getD_cons_succ, cell_int, cell_bool, cell_str, cell_sl, cell_agg, i_int, b_bool, s_str, nb_sl, els_sl, nb_ov, els_ov, cs_pv, cs_agg, Int.toNat_natCast, toNat_sub1, toNat_add1, List.length_map, getD_map, ct, cf, beqd, bned, cp, cn, cnp, cnn, if_pos, if_neg, wrap64, Option.bind_some, Bool.not_true, Bool.not_false, List.isEmpty_nil, List.nil_append, List.length_nil, List.length_cons, Nat.zero_add, M1, M2, rcheck_ok n a ha, rcheck_ok m b hb, ca, cb, ne_eq, not_true_eq_false, not_false_eq_true, dF, beq_self_eq_true]
  rw [merge_comm ha hb ca cb] at M2
  have C1 := rcheck_ok n a ha
  have C2 := rcheck_ok m b hb
  have C3 := rcheck_ok o c hc
  rw [ca] at C1
  rw [cb] at C2
  have aa := check_zero ca
  have ab := check_zero cb
  by_cases cc : checkF c = 0
  case neg =>
    rcases merge_cases a b with ⟨e, e1, e2⟩ | ⟨_, _, z, _, e2, _⟩ <;>
    · rw [e2] at M1 M2
      clear e2
      simp (disch := omega) only [decide_true, decide_false, if_true, if_false, Bool.false_eq_true, Bool.true_eq_false, eq_self, Bool.true_or, Bool.false_or, Bool.true_and, Bool.false_and, Bool.or_true, Bool.or_false, Bool.and_true, Bool.and_false, List.getD_cons_zero, List.getD_cons_succ, cell_int, cell_bool, cell_str, cell_sl, cell_agg, i_int, b_bool, s_str, nb_sl, els_sl, nb_ov, els_ov, cs_pv, cs_agg, Int.toNat_natCast, toNat_sub1, toNat_add1, List.length_map, getD_map, ct, cf, beqd, bned, cp, cn, cnp, cnn, if_pos, if_neg, wrap64, Option.bind_some, Bool.not_true, Bool.not_false, List.isEmpty_nil, List.nil_append, List.length_nil, List.length_cons, Nat.zero_add, M1, M2, C1, C2, C3, cc, ne_eq, not_true_eq_false, not_false_eq_true, beq_self_eq_true]
  rw [cc] at C3
  have ac := check_zero cc
  have M3 : Cl ty tab 12 [.sl 47 n a, .sl 47 n a] = some [.ov 47 a.isEmpty a, .int .i64 0] := by
    rw [merge_ok n n a a ha ha]
    unfold mergeR
    rw [if_neg (fun h => h ca), if_neg (fun h => h ca), zip_self aa.2.1]
    exact congrArg some (if_neg (by omega))
  have M4 := merge_ok m o b c hb hc
  have S1 : Cl ty tab 14 [.sl 47 a.isEmpty a, .sl 47 n a] = some [.bool true] := sameP_ok _ _ a (by omega)
  rcases merge_cases a b with ⟨e, e1, e2⟩ | ⟨_, _, x, x1, e2, x2⟩
  · rw [e2] at M1 M2
    have S2 : Cl ty tab 14 [.sl 47 true [], .sl 47 true []] = some [.bool true] := sameP_ok _ _ [] (by simp)
    rcases merge_cases b c with ⟨f, f1, f2⟩ | ⟨_, _, z, z1, f2, z2⟩ <;>
    · rw [f2] at M4
      clear e2 f2
      simp (disch := omega) only [decide_true, decide_false, if_true, if_false, Bool.false_eq_true, Bool.true_eq_false, eq_self, Bool.true_or, Bool.false_or, Bool.true_and, Bool.false_and, Bool.or_true, Bool.or_false, Bool.and_true, Bool.and_false, List.getD_cons_zero, List.getD_cons_succ, cell_int, cell_bool, cell_str, cell_sl, cell_agg, i_int, b_bool, s_str, nb_sl, els_sl, nb_ov, els_ov, cs_pv, cs_agg, Int.toNat_natCast, toNat_sub1, toNat_add1, List.length_map, getD_map, ct, cf, beqd, bned, cp, cn, cnp, cnn, if_pos, if_neg, wrap64, Option.bind_some, Bool.not_true, Bool.not_false, List.isEmpty_nil, List.nil_append, List.length_nil, List.length_cons, Nat.zero_add, M1, M2, M3, M4, S1, S2, C1, C2, C3, ne_eq, not_true_eq_false, not_false_eq_true, beq_self_eq_true]
  have S2 : Cl ty tab 14 [.sl 47 x.isEmpty x, .sl 47 x.isEmpty x] = some [.bool true] := sameP_ok _ _ x (by omega)
  have fx := fine_zip ha hb ca cb x1 x2
  rw [e2] at M1 M2
  clear e2
  rcases merge_cases b c with ⟨f, f1, f2⟩ | ⟨_, _, z, z1, f2, z2⟩
  · rw [f2] at M4
    clear f2
    simp (disch := omega) only [decide_true, decide_false, if_true, if_false, Bool.false_eq_true, Bool.true_eq_false, eq_self, Bool.true_or, Bool.false_or, Bool.true_and, Bool.false_and, Bool.or_true, Bool.or_false, Bool.and_true, Bool.and_false, List.getD_cons_zero, List.getD_cons_succ, cell_int, cell_bool, cell_str, cell_sl, cell_agg, i_int, b_bool, s_str, nb_sl, els_sl, nb_ov, els_ov, cs_pv, cs_agg, Int.toNat_natCast, toNat_sub1, toNat_add1, List.length_map, getD_map, ct, cf, beqd, bned, cp, cn, cnp, cnn, if_pos, if_neg, wrap64, Option.bind_some, Bool.not_true, Bool.not_false, List.isEmpty_nil, List.nil_append, List.length_nil, List.length_cons, Nat.zero_add, M1, M2, M3, M4, S1, S2, C1, C2, C3, ne_eq, not_true_eq_false, not_false_eq_true, beq_self_eq_true]
  rw [f2] at M4
  clear f2
  have fz := fine_zip hb hc cb cc z1 z2
  have M5 := merge_ok x.isEmpty o x c fx hc
  have M6 := merge_ok n z.isEmpty a z ha fz
  rcases merge_cases x c with ⟨p, p1, p2⟩ | ⟨cx, _, l, l1, p2, l2⟩
  · rw [p2] at M5
    clear p2
    rcases merge_cases a z with ⟨q, q1, q2⟩ | ⟨_, cz, r, r1, q2, r2⟩ <;>
    · rw [q2] at M6
      clear q2
      simp (disch := omega) only [decide_true, decide_false, if_true, if_false, Bool.false_eq_true, Bool.true_eq_false, eq_self, Bool.true_or, Bool.false_or, Bool.true_and, Bool.false_and, Bool.or_true, Bool.or_false, Bool.and_true, Bool.and_false, List.getD_cons_zero, List.getD_cons_succ, cell_int, cell_bool, cell_str, cell_sl, cell_agg, i_int, b_bool, s_str, nb_sl, els_sl, nb_ov, els_ov, cs_pv, cs_agg, Int.toNat_natCast, toNat_sub1, toNat_add1, List.length_map, getD_map, ct, cf, beqd, bned, cp, cn, cnp, cnn, if_pos, if_neg, wrap64, Option.bind_some, Bool.not_true, Bool.not_false, List.isEmpty_nil, List.nil_append, List.length_nil, List.length_cons, Nat.zero_add, M1, M2, M3, M4, M5, M6, S1, S2, C1, C2, C3, ne_eq, not_true_eq_false, not_false_eq_true, beq_self_eq_true]
  rw [p2] at M5
  clear p2
  rcases merge_cases a z with ⟨q, q1, q2⟩ | ⟨_, cz, r, r1, q2, r2⟩
  · rw [q2] at M6
    clear q2
    simp (disch := omega) only [decide_true, decide_false, if_true, if_false, Bool.false_eq_true, Bool.true_eq_false, eq_self, Bool.true_or, Bool.false_or, Bool.true_and, Bool.false_and, Bool.or_true, Bool.or_false, Bool.and_true, Bool.and_false, List.getD_cons_zero, List.getD_cons_succ, cell_int, cell_bool, cell_str, cell_sl, cell_agg, i_int, b_bool, s_str, nb_sl, els_sl, nb_ov, els_ov, cs_pv, cs_agg, Int.toNat_natCast, toNat_sub1, toNat_add1, List.length_map, getD_map, ct, cf, beqd, bned, cp, cn, cnp, cnn, if_pos, if_neg, wrap64, Option.bind_some, Bool.not_true, Bool.not_false, List.isEmpty_nil, List.nil_append, List.length_nil, List.length_cons, Nat.zero_add, M1, M2, M3, M4, M5, M6, S1, S2, C1, C2, C3, ne_eq, not_true_eq_false, not_false_eq_true, beq_self_eq_true]
  rw [q2] at M6
  clear q2
  have e := zip_assoc aa.2.1 ab.2.1 ac.2.1 ha.fit hb.fit hc.fit x1 z1 l1 r1
  subst e
  have S3 : Cl ty tab 14 [.sl 47 l.isEmpty l, .sl 47 l.isEmpty l] = some [.bool true] := sameP_ok _ _ l (by omega)
  simp (disch := omega) only [decide_true, decide_false, if_true, if_false, Bool.false_eq_true, Bool.true_eq_false, eq_self, Bool.true_or, Bool.false_or, Bool.true_and, Bool.false_and, Bool.or_true, Bool.or_false, Bool.and_true, Bool.and_false, List.getD_cons_zero, List.getD_cons_succ, cell_int, cell_bool, cell_str, cell_sl, cell_agg, i_int, b_bool, s_str, nb_sl, els_sl, nb_ov, els_ov, cs_pv, cs_agg, Int.toNat_natCast, toNat_sub1, toNat_add1, List.length_map, getD_map, ct, cf, beqd, bned, cp, cn, cnp, cnn, if_pos, if_neg, wrap64, Option.bind_some, Bool.not_true, Bool.not_false, List.isEmpty_nil, List.nil_append, List.length_nil, List.length_cons, Nat.zero_add, M1, M2, M3, M4, M5, M6, S1, S2, S3, C1, C2, C3, ne_eq, not_true_eq_false, not_false_eq_true, beq_self_eq_true]

theorem freshOrder_law : LawTrue ty tab 9 [⟨false, [.sl 47]⟩, ⟨false, [.sl 47]⟩, ⟨false, [.sl 47]⟩] := by
  refine lawTrue_of fun dd hf hw => ?_
  obtain ⟨d1, dd, rfl, h1, hf⟩ := fitsV_cons hf
  obtain ⟨d2, dd, rfl, h2, hf⟩ := fitsV_cons hf
  obtain ⟨d3, dd, rfl, h3, hf⟩ := fitsV_cons hf
  obtain rfl := fitsV_nil hf
  obtain ⟨n, a, rfl⟩ := fits_sl (fits_one h1)
  obtain ⟨m, b, rfl⟩ := fits_sl (fits_one h2)
  obtain ⟨o, c, rfl⟩ := fits_sl (fits_one h3)
  exact freshOrder_cl n m o a b c (fine_eo (hw (.sl 47 n a) (by simp))) (fine_eo (hw (.sl 47 m b) (by simp))) (fine_eo (hw (.sl 47 o c) (by simp)))

end Go.Proofs.Ytmfhhbiaghejjaa.Own
