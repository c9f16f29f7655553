import Derived.Test.YtmfhhbiaghejjaaV
import Derived.Test.YtmfhhbiaghejjaaRFreshNever
namespace Go.Proofs.Ytmfhhbiaghejjaa.Own
open Go Go.Proofs.Ytmfhhbiaghejjaa.GD
set_option linter.unusedVariables false
set_option linter.unusedSimpArgs false

/-- what a record may become -/
structure Next (x d : D) (u : List UInt8) : Prop where
  fnum : ¬ num x < num d
  fsame : num x = num d → eqCells (hsh x) (hsh d) = true ∧ frm x = frm d ∧ til x = til d
  fseen : ¬ seen x < seen d
  fother : uri d ≠ u → x = d

theorem cmpt_of {x d : D} (h : cmpt x d = true) : eqCells (hsh x) (hsh d) = true ∧ frm x = frm d ∧ til x = til d := by
  unfold cmpt at h
  simp only [Bool.and_eq_true, beq_iff_eq] at h
  exact ⟨h.1, h.2.1, h.2.2⟩

theorem judge_two {x o : D} (h : judgeF x o = 2) : num x = num o ∧ cmpt x o = true := by
  unfold judgeF at h
  split at h
  · cases h
  · split at h
    · assumption
    · split at h
      · cases h
      · split at h <;> cases h

theorem judge_three {x o : D} (h : judgeF x o = 3) : num o < num x := by
  unfold judgeF at h
  split at h
  · cases h
  · split at h
    · cases h
    · split at h
      · cases h
      · rename_i h1 h2 h3
        have : ¬ num x = num o := fun e => h3 (.inl e)
        omega

theorem next_of {l : List D} {x : D} {now : Int} (h : (lookV l x now).2.2 = 0) {d : D} (hd : d ∈ l) (ha : Asc l) :
    ∃ y, look (lookV l x now).1 (uri d) = some y ∧ Next y d (uri x) := by
  have hself := look_of_mem ha hd
  have rf : Next d d (uri x) := ⟨by omega, fun _ => ⟨eqCells_refl _, rfl, rfl⟩, by omega, fun _ => rfl⟩
  rcases lookV_cases l x now with ⟨h1, _, _⟩ | ⟨_, hc, h1, h2, h3, h4, ⟨e, _⟩ | ⟨e, e1, e2, e3⟩⟩
  · exact absurd h h1
  · rw [e]; exact ⟨d, hself, rf⟩
  · rw [e, look_put]
    by_cases hu : uri x = uri d
    · rw [if_pos hu]
      refine ⟨x, rfl, ?_⟩
      rcases e3 with ⟨e4, _⟩ | ⟨o, e4, e5, _⟩
      · rw [hu, hself] at e4; cases e4
      · have e6 := e4
        rw [hu, hself] at e4
        cases e4
        have h5 := h4 d e6
        rcases e5 with e5 | e5
        · obtain ⟨j1, j2⟩ := judge_two e5
          exact ⟨by omega, fun _ => cmpt_of j2, by omega, fun hne => absurd hu.symm hne⟩
        · have j1 := judge_three e5
          exact ⟨by omega, fun he => by omega, by omega, fun hne => absurd hu.symm hne⟩
    · rw [if_neg hu]
      exact ⟨d, hself, rf⟩

theorem look_len {l : List D} {x : D} {now : Int} (h : (lookV l x now).2.2 = 0) : checkF (lookV l x now).1 = 0 ∧ l.length ≤ (lookV l x now).1.length ∧ (lookV l x now).1.length ≤ l.length + 1 := by
  rcases lookV_cases l x now with ⟨h1, _, _⟩ | ⟨_, hc, h1, h2, h3, h4, ⟨e, _⟩ | ⟨e, e1, e2, e3⟩⟩
  · exact absurd h h1
  · rw [e]; exact ⟨hc, Nat.le_refl _, by omega⟩
  · obtain ⟨c1, c2, c3⟩ := check_zero hc
    rw [e]
    rcases e3 with ⟨e4, e5, _⟩ | ⟨o, e4, _⟩
    · refine ⟨put_check hc h2 (.inr e5), ?_, putF_len x l⟩
      have : atS l (uri x) = false := by
        cases ha : atS l (uri x) with
        | false => rfl
        | true => obtain ⟨_, h⟩ := at_look c2 ha; rw [e4] at h; cases h
      rw [put_new x c2 this]
      simp
      have := lb_le (uri x) l
      omega
    · refine ⟨put_check hc h2 (.inl ⟨o, e4⟩), ?_, putF_len x l⟩
      have : atS l (uri x) = true := (atS_iff c2).2 ⟨o, (look_mem e4).1, (look_mem e4).2⟩
      rw [put_old x c2 this]
      simp

attribute [local irreducible] num seen frm til hsh uri

set_option maxHeartbeats 2000000 in
theorem inner_ok (k : Nat) (hk : 9223372036854775808 < k) (l2 : List D) (nd : Bool) (m1 m2 : Bool) (cur next : List D) (i : Nat) (hi : i < l2.length) (again6 : List D → Option (List D)) (hcur : Fine cur) (hnx : Fine next) (hs1 : cur.length ≤ 200) (hs2 : next.length ≤ 201)
    (hl2 : Fine l2) (hall : ∀ d, d ∈ cur → ∃ y, look next (uri d) = some y ∧ Next y d (uri l2[i])) :
    iter k (gatepathlaw29_FreshNever.b1 (Cl ty tab) k l2 again6 [.ov 47 m1 cur, .int .i64 i]) [.int .i64 0, .ov 47 m1 cur, .ov 47 m2 next] = again6 [.ov 47 m2 next, .int .i64 ((i : Int) + 1)] := by
  have hi64 := hl2.len
  have := iter_ix (F := gatepathlaw29_FreshNever.b1 (Cl ty tab) k l2 again6 [.ov 47 m1 cur, .int .i64 i]) cur.length (fun j => [.int .i64 j, .ov 47 m1 cur, .ov 47 m2 next]) (fun _ => again6 [.ov 47 m2 next, .int .i64 ((i : Int) + 1)])
    (fun j hj again ha => ?_) (fun again => ?_) k (by omega) 0 (by omega)
  · exact this
  · obtain ⟨y, hy, hN⟩ := hall _ (List.getElem_mem hj)
    have hrec := record_ok m2 next ((cur[j]).cell 0).s hnx (by omega)
    rw [g0] at hrec
    unfold recR at hrec
    rw [hy] at hrec
    simp only [] at hrec
    have hg : cur.getD j .undef = cur[j] := getD_get hj
    have hg2 : l2.getD i .undef = l2[i] := getD_get hi
    have hfd := hcur.fit _ (List.getElem_mem hj)
    have hir : (0 : Int) ≤ (i : Int) ∧ (i : Int) < (l2.length : Nat) := by omega
    obtain ⟨n1, n2, n3, n4⟩ := hN
    generalize cur[j] = d at *
    generalize l2[i] = z at *
    unfold gatepathlaw29_FreshNever.b1
    clear hall hcur hnx hl2 hy hfd
    have e5 : ∀ a b : D, uri a = uri b → ((a.cell 0).s.toList == (b.cell 0).s.toList) = true := fun a b h => by rw [g0, g0]; simp [h]
    have e6 : ∀ a b : D, uri a ≠ uri b → ((a.cell 0).s.toList == (b.cell 0).s.toList) = false := fun a b h => by rw [g0, g0]; simp [h]
    by_cases c1 : num y = num d
    · obtain ⟨a1, a2, a3⟩ := n2 c1
      by_cases c2 : uri d = uri z
      · simp (disch := omega) only [decide_true, decide_false, if_true, if_false, Bool.false_eq_true, Bool.true_eq_false, eq_self, Bool.true_or, Bool.false_or, Bool.true_and, Bool.false_and, Bool.or_true, Bool.or_false, Bool.and_true, Bool.and_false, List.getD_cons_zero, List.getD_cons_succ, cell_int, cell_bool, cell_str, cell_sl, cell_agg, i_int, b_bool, s_str, nb_sl, els_sl, nb_ov, els_ov, cs_pv, cs_agg, Int.toNat_natCast, toNat_sub1, toNat_add1, List.length_map, getD_map, ct, cf, beqd, bned, cp, cn, cnp, cnn, if_pos, if_neg, wrap64, Option.bind_some, Bool.not_true, Bool.not_false, List.isEmpty_nil, List.nil_append, List.length_nil, List.length_cons, Nat.zero_add, hg, hg2, hrec, g1, g34, g35, g36, gh, c1, a1, a2, a3, beq_self_eq_true, e5 d z c2, Int.natCast_add, Int.natCast_one] at ha ⊢
        exact ha
      · have e7 := n4 c2
        subst e7
        have e8 : eqCells (etaCells ks0 y 0) (etaCells ks0 y 0) = true := eqCells_refl _
        simp (disch := omega) only [decide_true, decide_false, if_true, if_false, Bool.false_eq_true, Bool.true_eq_false, eq_self, Bool.true_or, Bool.false_or, Bool.true_and, Bool.false_and, Bool.or_true, Bool.or_false, Bool.and_true, Bool.and_false, List.getD_cons_zero, List.getD_cons_succ, cell_int, cell_bool, cell_str, cell_sl, cell_agg, i_int, b_bool, s_str, nb_sl, els_sl, nb_ov, els_ov, cs_pv, cs_agg, Int.toNat_natCast, toNat_sub1, toNat_add1, List.length_map, getD_map, ct, cf, beqd, bned, cp, cn, cnp, cnn, if_pos, if_neg, wrap64, Option.bind_some, Bool.not_true, Bool.not_false, List.isEmpty_nil, List.nil_append, List.length_nil, List.length_cons, Nat.zero_add, hg, hg2, hrec, g1, g34, g35, g36, gh, a1, beq_self_eq_true, e6 y z c2, e8, Int.natCast_add, Int.natCast_one] at ha ⊢
        exact ha
    · by_cases c2 : uri d = uri z
      · simp (disch := omega) only [decide_true, decide_false, if_true, if_false, Bool.false_eq_true, Bool.true_eq_false, eq_self, Bool.true_or, Bool.false_or, Bool.true_and, Bool.false_and, Bool.or_true, Bool.or_false, Bool.and_true, Bool.and_false, List.getD_cons_zero, List.getD_cons_succ, cell_int, cell_bool, cell_str, cell_sl, cell_agg, i_int, b_bool, s_str, nb_sl, els_sl, nb_ov, els_ov, cs_pv, cs_agg, Int.toNat_natCast, toNat_sub1, toNat_add1, List.length_map, getD_map, ct, cf, beqd, bned, cp, cn, cnp, cnn, if_pos, if_neg, wrap64, Option.bind_some, Bool.not_true, Bool.not_false, List.isEmpty_nil, List.nil_append, List.length_nil, List.length_cons, Nat.zero_add, hg, hg2, hrec, g1, g34, g35, g36, gh, c1, e5 d z c2, Int.natCast_add, Int.natCast_one] at ha ⊢
        exact ha
      · have e7 := n4 c2
        subst e7
        exact absurd rfl c1
  · unfold gatepathlaw29_FreshNever.b1
    simp (disch := omega) only [decide_true, decide_false, if_true, if_false, Bool.false_eq_true, Bool.true_eq_false, eq_self, Bool.true_or, Bool.false_or, Bool.true_and, Bool.false_and, Bool.or_true, Bool.or_false, Bool.and_true, Bool.and_false, List.getD_cons_zero, List.getD_cons_succ, cell_int, cell_bool, cell_str, cell_sl, cell_agg, i_int, b_bool, s_str, nb_sl, els_sl, nb_ov, els_ov, cs_pv, cs_agg, Int.toNat_natCast, toNat_sub1, toNat_add1, List.length_map, getD_map, ct, cf, beqd, bned, cp, cn, cnp, cnn, if_pos, if_neg, wrap64, Option.bind_some, Bool.not_true, Bool.not_false, List.isEmpty_nil, List.nil_append, List.length_nil, List.length_cons, Nat.zero_add]

set_option maxHeartbeats 2000000 in
theorem freshNever_cl (n nd : Bool) (l l2 : List D) (hl : Fine l) (hl2 : Fine l2) (hn : n = true → l = []) : Cl ty tab 6 [.sl 47 n l, .sl 47 nd l2] = some [.bool true] := by
  obtain ⟨k, hk⟩ := rounds
  refine s_gatepathlaw29_FreshNever k _ _ _ _ ?_
  unfold gatepathlaw29_FreshNever
  cases hg : greatF l
  case true => simp (disch := omega) only [decide_true, decide_false, if_true, if_false, Bool.false_eq_true, Bool.true_eq_false, eq_self, Bool.true_or, Bool.false_or, Bool.true_and, Bool.false_and, Bool.or_true, Bool.or_false, Bool.and_true, Bool.and_false, List.getD_cons_zero, List.getD_cons_succ, cell_int, cell_bool, cell_str, cell_sl, cell_agg, i_int, b_bool, s_str, nb_sl, els_sl, nb_ov, els_ov, cs_pv, cs_agg, Int.toNat_natCast, toNat_sub1, toNat_add1, List.length_map, getD_map, ct, cf, beqd, bned, cp, cn, cnp, cnn, if_pos, if_neg, wrap64, Option.bind_some, Bool.not_true, Bool.not_false, List.isEmpty_nil, List.nil_append, List.length_nil, List.length_cons, Nat.zero_add, alive_is, great_ok n l hl, hg]
  cases hg2 : greatF l2
  case true => simp (disch := omega) only [decide_true, decide_false, if_true, if_false, Bool.false_eq_true, Bool.true_eq_false, eq_self, Bool.true_or, Bool.false_or, Bool.true_and, Bool.false_and, Bool.or_true, Bool.or_false, Bool.and_true, Bool.and_false, List.getD_cons_zero, List.getD_cons_succ, cell_int, cell_bool, cell_str, cell_sl, cell_agg, i_int, b_bool, s_str, nb_sl, els_sl, nb_ov, els_ov, cs_pv, cs_agg, Int.toNat_natCast, toNat_sub1, toNat_add1, List.length_map, getD_map, ct, cf, beqd, bned, cp, cn, cnp, cnn, if_pos, if_neg, wrap64, Option.bind_some, Bool.not_true, Bool.not_false, List.isEmpty_nil, List.nil_append, List.length_nil, List.length_cons, Nat.zero_add, alive_is, great_ok n l hl, great_ok nd l2 hl2, hg, hg2]
  by_cases hc : checkF l = 0
  case neg => simp (disch := omega) only [decide_true, decide_false, if_true, if_false, Bool.false_eq_true, Bool.true_eq_false, eq_self, Bool.true_or, Bool.false_or, Bool.true_and, Bool.false_and, Bool.or_true, Bool.or_false, Bool.and_true, Bool.and_false, List.getD_cons_zero, List.getD_cons_succ, cell_int, cell_bool, cell_str, cell_sl, cell_agg, i_int, b_bool, s_str, nb_sl, els_sl, nb_ov, els_ov, cs_pv, cs_agg, Int.toNat_natCast, toNat_sub1, toNat_add1, List.length_map, getD_map, ct, cf, beqd, bned, cp, cn, cnp, cnn, if_pos, if_neg, wrap64, Option.bind_some, Bool.not_true, Bool.not_false, List.isEmpty_nil, List.nil_append, List.length_nil, List.length_cons, Nat.zero_add, alive_is, great_ok n l hl, great_ok nd l2 hl2, hg, hg2, rcheck_ok n l hl, hc, ne_eq, not_false_eq_true]
  by_cases h50 : 50 < l2.length
  · simp (disch := omega) only [decide_true, decide_false, if_true, if_false, Bool.false_eq_true, Bool.true_eq_false, eq_self, Bool.true_or, Bool.false_or, Bool.true_and, Bool.false_and, Bool.or_true, Bool.or_false, Bool.and_true, Bool.and_false, List.getD_cons_zero, List.getD_cons_succ, cell_int, cell_bool, cell_str, cell_sl, cell_agg, i_int, b_bool, s_str, nb_sl, els_sl, nb_ov, els_ov, cs_pv, cs_agg, Int.toNat_natCast, toNat_sub1, toNat_add1, List.length_map, getD_map, ct, cf, beqd, bned, cp, cn, cnp, cnn, if_pos, if_neg, wrap64, Option.bind_some, Bool.not_true, Bool.not_false, List.isEmpty_nil, List.nil_append, List.length_nil, List.length_cons, Nat.zero_add, alive_is, great_ok n l hl, great_ok nd l2 hl2, hg, hg2, rcheck_ok n l hl, hc, ne_eq, not_true_eq_false]
  obtain ⟨c1, _, _⟩ := check_zero hc
  have hcond : (([] : List D).length + l.length) * 80 ≤ 140737488355328 := by simp; omega
  simp (disch := omega) only [decide_true, decide_false, if_true, if_false, Bool.false_eq_true, Bool.true_eq_false, eq_self, Bool.true_or, Bool.false_or, Bool.true_and, Bool.false_and, Bool.or_true, Bool.or_false, Bool.and_true, Bool.and_false, List.getD_cons_zero, List.getD_cons_succ, cell_int, cell_bool, cell_str, cell_sl, cell_agg, i_int, b_bool, s_str, nb_sl, els_sl, nb_ov, els_ov, cs_pv, cs_agg, Int.toNat_natCast, toNat_sub1, toNat_add1, List.length_map, getD_map, ct, cf, beqd, bned, cp, cn, cnp, cnn, if_pos, if_neg, wrap64, Option.bind_some, Bool.not_true, Bool.not_false, List.isEmpty_nil, List.nil_append, List.length_nil, List.length_cons, Nat.zero_add, alive_is, great_ok n l hl, great_ok nd l2 hl2, hg, hg2, rcheck_ok n l hl, hc, ne_eq, not_true_eq_false, hcond]
  have := iter_wf (F := gatepathlaw29_FreshNever.b0 (Cl ty tab) k l2 [.bool true]) (σ := Bool × List D × Nat) (fun q => [.ov 47 q.1 q.2.1, .int .i64 q.2.2]) (fun _ => some [.bool true]) (fun q => l2.length - q.2.2)
    (fun q => q.2.2 ≤ l2.length ∧ Fine q.2.1 ∧ checkF q.2.1 = 0 ∧ (q.1 = true → q.2.1 = [])) (fun q hq again hag => ?_) k (false, l, 0) ⟨Nat.zero_le _, hl, hc, fun h => by cases h⟩ (by simp only; omega)
  · simpa using this
  · obtain ⟨m, cur, i⟩ := q
    obtain ⟨q1, q2, q3, q4⟩ := hq
    simp only at q1 q2 q3 q4 hag ⊢
    unfold gatepathlaw29_FreshNever.b0
    rcases Nat.lt_or_ge i l2.length with hi | hi
    · have hf := hl2.fit _ (List.getElem_mem hi)
      have hgg : l2.getD i .undef = l2[i] := getD_get hi
      have he := hl2.eta hi
      obtain ⟨m2, hm2, hm3⟩ := look_ok m cur l2[i] (seen l2[i]) q2 hf q4
      have hfin := lookV_fine (now := seen l2[i]) q2 hf
      have hcs := lookV_cases cur l2[i] (seen l2[i])
      have hlk := look_len (l := cur) (x := l2[i]) (now := seen l2[i])
      have hnx := fun (h : (lookV cur l2[i] (seen l2[i])).2.2 = 0) (d : D) (hd : d ∈ cur) => next_of (x := l2[i]) (now := seen l2[i]) h hd (check_zero q3).2.1
      have hinner := inner_ok k hk l2 nd m m2 cur (lookV cur l2[i] (seen l2[i])).1 i hi again q2 hfin (check_zero q3).1
      generalize lookV cur l2[i] (seen l2[i]) = v at *
      by_cases h0 : v.2.2 = 0
      · obtain ⟨k1, k2, k3⟩ := hlk h0
        have k4 := (check_zero q3).1
        have k5 := hinner (by omega) hl2 (hnx h0)
        have hnext := hag (m2, v.1, i + 1) ⟨hi, hfin, k1, hm3⟩ (by simp only; omega)
        have hrc := rcheck_ok m2 v.1 hfin
        rw [k1] at hrc
        clear hag hinner hnx hlk hcs hm3 hl2 hl hf hfin hn q2 q4
        simp only [Int.natCast_add, Int.natCast_one] at hnext
        simp (disch := omega) only [decide_true, decide_false, if_true, if_false, Bool.false_eq_true, Bool.true_eq_false, eq_self, Bool.true_or, Bool.false_or, Bool.true_and, Bool.false_and, Bool.or_true, Bool.or_false, Bool.and_true, Bool.and_false, List.getD_cons_zero, List.getD_cons_succ, cell_int, cell_bool, cell_str, cell_sl, cell_agg, i_int, b_bool, s_str, nb_sl, els_sl, nb_ov, els_ov, cs_pv, cs_agg, Int.toNat_natCast, toNat_sub1, toNat_add1, List.length_map, getD_map, ct, cf, beqd, bned, cp, cn, cnp, cnn, if_pos, if_neg, wrap64, Option.bind_some, Bool.not_true, Bool.not_false, List.isEmpty_nil, List.nil_append, List.length_nil, List.length_cons, Nat.zero_add, hgg, he, g36, hm2, h0, hrc, ne_eq, not_true_eq_false, k5, hnext]
      · rcases hcs with ⟨_, k1, k2⟩ | ⟨k1, _⟩
        · have hnext := hag (m, cur, i + 1) ⟨hi, q2, q3, q4⟩ (by simp only; omega)
          have k3 : v.1.length = 0 := by rw [k1]; rfl
          clear hag hinner hnx hlk hm3 hl2 hl hf hfin hn q2 q4
          simp only [Int.natCast_add, Int.natCast_one] at hnext
          simp (disch := omega) only [decide_true, decide_false, if_true, if_false, Bool.false_eq_true, Bool.true_eq_false, eq_self, Bool.true_or, Bool.false_or, Bool.true_and, Bool.false_and, Bool.or_true, Bool.or_false, Bool.and_true, Bool.and_false, List.getD_cons_zero, List.getD_cons_succ, cell_int, cell_bool, cell_str, cell_sl, cell_agg, i_int, b_bool, s_str, nb_sl, els_sl, nb_ov, els_ov, cs_pv, cs_agg, Int.toNat_natCast, toNat_sub1, toNat_add1, List.length_map, getD_map, ct, cf, beqd, bned, cp, cn, cnp, cnn, if_pos, if_neg, wrap64, Option.bind_some, Bool.not_true, Bool.not_false, List.isEmpty_nil, List.nil_append, List.length_nil, List.length_cons, Nat.zero_add, hgg, he, g36, hm2, h0, k1, k2, k3, ne_eq, not_true_eq_false, not_false_eq_true, hnext]
        · exact absurd k1 h0
    · simp (disch := omega) only [decide_true, decide_false, if_true, if_false, Bool.false_eq_true, Bool.true_eq_false, eq_self, Bool.true_or, Bool.false_or, Bool.true_and, Bool.false_and, Bool.or_true, Bool.or_false, Bool.and_true, Bool.and_false, List.getD_cons_zero, List.getD_cons_succ, cell_int, cell_bool, cell_str, cell_sl, cell_agg, i_int, b_bool, s_str, nb_sl, els_sl, nb_ov, els_ov, cs_pv, cs_agg, Int.toNat_natCast, toNat_sub1, toNat_add1, List.length_map, getD_map, ct, cf, beqd, bned, cp, cn, cnp, cnn, if_pos, if_neg, wrap64, Option.bind_some, Bool.not_true, Bool.not_false, List.isEmpty_nil, List.nil_append, List.length_nil, List.length_cons, Nat.zero_add]

theorem freshNever_law : LawTrue ty tab 6 [⟨false, [.sl 47]⟩, ⟨false, [.sl 47]⟩] := by
  refine lawTrue_of fun dd hf hw => ?_
  obtain ⟨d1, dd, rfl, h1, hf⟩ := fitsV_cons hf
  obtain ⟨d2, dd, rfl, h2, hf⟩ := fitsV_cons hf
  obtain rfl := fitsV_nil hf
  obtain ⟨n, els, rfl⟩ := fits_sl (fits_one h1)
  obtain ⟨n2, els2, rfl⟩ := fits_sl (fits_one h2)
  obtain ⟨hl, hn⟩ := fine_looks (hw (.sl 47 n els) (by simp))
  obtain ⟨hl2, _⟩ := fine_looks (hw (.sl 47 n2 els2) (by simp))
  exact freshNever_cl n n2 els els2 hl hl2 hn

end Go.Proofs.Ytmfhhbiaghejjaa.Own
