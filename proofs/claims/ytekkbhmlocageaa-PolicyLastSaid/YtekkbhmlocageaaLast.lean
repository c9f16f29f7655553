import Derived.Test.YtekkbhmlocageaaI
import Derived.Test.YtekkbhmlocageaaRPolicyLast
namespace Go.Proofs.Ytekkbhmlocageaa.Own
open Go Go.Proofs.Ytekkbhmlocageaa.GD
set_option linter.unusedVariables false
set_option linter.unusedSimpArgs false

theorem orE_le {x y : Int} (h : orE x y ≤ 0) : x ≤ 0 := by
  unfold orE at h
  split at h
  · exact h
  · rename_i h1
    have : x = 0 := by simpa using h1
    omega
theorem cmpJ_bads {a b : D} (h : cmpJ a b ≤ 0) : bads a ≤ bads b := by
  unfold cmpJ at h
  exact sgn_le (orE_le h)
theorem takes7 (m a b c : Int) (h : takesF 7 m a b c = true) : cntF a b c 2 = 0 := by
  unfold takesF badF at h
  have e1 : hasB 7 1 ≠ 0 := by decide
  have e2 : hasB 7 2 ≠ 0 := by decide
  have e3 : hasB 7 4 ≠ 0 := by decide
  simp only [e1, e2, e3, ne_eq, not_false_eq_true, decide_true, Bool.true_and, Bool.not_or, Bool.and_eq_true, Bool.not_eq_true', decide_eq_false_iff_not] at h
  unfold cntF one
  rw [if_neg h.1.1.1, if_neg h.1.2.1, if_neg h.2.1]; rfl
theorem rightJ_known {d : D} (h : rightJ d = true) : knownF (d.cell 14).i (d.cell 15).i (d.cell 16).i = true := by
  unfold rightJ knownJ at h
  rw [Bool.and_eq_true] at h
  exact h.2
theorem acc_yes {x y : Int} {d : D} (hd : Jd d) (hr : rightJ d = true) (hx : x ≤ 7) (hy : y ≤ 7) : Cl ty tab 8 [.agg [.int .u8 x, .int .u8 y], .agg [.int .u8 (d.cell 14).i, .int .u8 (d.cell 15).i, .int .u8 (d.cell 16).i]] = some [.bool (tkJ x y d), .int .i64 0] := by
  rw [accepts_ok x y _ _ _ hd.v1 hd.v2 hd.v3]
  unfold acceptsR
  rw [if_neg (by rw [rightJ_known hr]; simp; omega)]
  rfl

theorem checkF_many {x y : Int} {l : List D} (h : 500 < l.length) : checkF x y l ≠ 0 := by
  unfold checkF
  split
  · omega
  split
  · omega
  omega

theorem small_of {x y : Int} {l : List D} (h : checkF x y l = 0) (hg : greatL l = false) : l.length ≤ 40 := by
  have h1 : ¬ 500 < l.length := fun hh => checkF_many hh h
  unfold greatL at hg
  rw [Bool.or_eq_false_iff, Bool.and_eq_false_iff] at hg
  rcases hg.1 with g | g <;> simp at g <;> omega

set_option maxHeartbeats 2000000 in
theorem policyLast_cl (x y : Int) (n : Bool) (l : List D) (hj : AllJ l) (hs : ∀ d, d ∈ l → (d.cell 13).els.length ≤ 9223372036854775807) : Cl ty tab 5 [.agg [.int .u8 x, .int .u8 y], .sl 39 n l] = some [.bool true] := by
  refine s_gatepathlaw44_PolicyLast 2000 x y n l ?_
  unfold gatepathlaw44_PolicyLast
  have hg := great_ok n l hj hs
  cases g : greatL l
  case true => simp (disch := omega) only [decide_true, decide_false, if_true, if_false, Bool.false_eq_true, Bool.true_eq_false, eq_self, Bool.true_or, Bool.false_or, Bool.true_and, Bool.false_and, Bool.or_true, Bool.or_false, Bool.and_true, Bool.and_false, List.getD_cons_zero, List.getD_cons_succ, cell_int, cell_bool, cell_str, cell_sl, cell_agg, i_int, b_bool, s_str, nb_sl, els_sl, nb_ov, els_ov, cs_pv, cs_agg, Int.toNat_natCast, toNat_sub1, toNat_add1, List.length_map, getD_map, ct, cf, beqd, bned, cp, cn, cnp, cnn, if_pos, if_neg, wrap64, Option.bind_some, Bool.not_true, Bool.not_false, List.isEmpty_nil, List.nil_append, List.length_nil, List.length_cons, Nat.zero_add, alive_is, hg, g]
  by_cases hc : checkF x y l = 0
  case neg => simp (disch := omega) only [decide_true, decide_false, if_true, if_false, Bool.false_eq_true, Bool.true_eq_false, eq_self, Bool.true_or, Bool.false_or, Bool.true_and, Bool.false_and, Bool.or_true, Bool.or_false, Bool.and_true, Bool.and_false, List.getD_cons_zero, List.getD_cons_succ, cell_int, cell_bool, cell_str, cell_sl, cell_agg, i_int, b_bool, s_str, nb_sl, els_sl, nb_ov, els_ov, cs_pv, cs_agg, Int.toNat_natCast, toNat_sub1, toNat_add1, List.length_map, getD_map, ct, cf, beqd, bned, cp, cn, cnp, cnn, if_pos, if_neg, wrap64, Option.bind_some, Bool.not_true, Bool.not_false, List.isEmpty_nil, List.nil_append, List.length_nil, List.length_cons, Nat.zero_add, alive_is, hg, g, best_no x y n l hj hc, hc, ne_eq, not_false_eq_true]
  have hl := small_of hc g
  obtain ⟨hx, hy, _, hr⟩ := checkF_zero hc
  cases hd : diffs l
  case true => simp (disch := omega) only [decide_true, decide_false, if_true, if_false, Bool.false_eq_true, Bool.true_eq_false, eq_self, Bool.true_or, Bool.false_or, Bool.true_and, Bool.false_and, Bool.or_true, Bool.or_false, Bool.and_true, Bool.and_false, List.getD_cons_zero, List.getD_cons_succ, cell_int, cell_bool, cell_str, cell_sl, cell_agg, i_int, b_bool, s_str, nb_sl, els_sl, nb_ov, els_ov, cs_pv, cs_agg, Int.toNat_natCast, toNat_sub1, toNat_add1, List.length_map, getD_map, ct, cf, beqd, bned, cp, cn, cnp, cnn, if_pos, if_neg, wrap64, Option.bind_some, Bool.not_true, Bool.not_false, List.isEmpty_nil, List.nil_append, List.length_nil, List.length_cons, Nat.zero_add, alive_is, hg, g, best_diff x y n l hj hc hl hd, ne_eq, not_true_eq_false, not_false_eq_true]
  obtain ⟨o, ho⟩ := order_ex x y l hj hc hl
  have hb := best_ok x y n l hj hc hl hd o ho
  have lp : ∀ b : Int, b = o.headD (-1) → iter 2000 (gatepathlaw44_PolicyLast.b0 (Cl ty tab) 2000 l [.bool true] [.int .i64 b, .int .i64 0]) [.int .i64 0, .pv [.int .u8 x, .int .u8 y]] = some [.bool true] := fun b eb => by
    have := iter_ix (F := gatepathlaw44_PolicyLast.b0 (Cl ty tab) 2000 l [.bool true] [.int .i64 b, .int .i64 0]) l.length (fun i => [.int .i64 i, .pv [.int .u8 x, .int .u8 y]]) (fun _ => some [.bool true]) (fun k hk again ha => ?_) (fun again => ?_) 2000 (by omega) 0 (by omega)
    · exact this
    · rw [Int.natCast_add, Int.natCast_one] at ha
      unfold gatepathlaw44_PolicyLast.b0
      have dk := hj.get hk
      have rk : rightJ (l.getD k .undef) = true := by rw [getD_get hk]; exact hr _ (List.getElem_mem hk)
      have acc := acc_yes dk rk hx hy
      cases tk : tkJ x y (l.getD k .undef)
      · rw [tk] at acc
        have ne : (k : Int) ≠ b := fun e => by
          cases o with
          | nil => simp only [List.headD_nil] at eb; omega
          | cons a t =>
            simp only [List.headD_cons] at eb
            obtain ⟨i, e1, _, e3⟩ := ho.head
            have : i = k := by omega
            rw [this, tk] at e3
            exact absurd e3 (by simp)
        clear ho hb
        simp (disch := omega) only [decide_true, decide_false, if_true, if_false, Bool.false_eq_true, Bool.true_eq_false, eq_self, Bool.true_or, Bool.false_or, Bool.true_and, Bool.false_and, Bool.or_true, Bool.or_false, Bool.and_true, Bool.and_false, List.getD_cons_zero, List.getD_cons_succ, cell_int, cell_bool, cell_str, cell_sl, cell_agg, i_int, b_bool, s_str, nb_sl, els_sl, nb_ov, els_ov, cs_pv, cs_agg, Int.toNat_natCast, toNat_sub1, toNat_add1, List.length_map, getD_map, ct, cf, beqd, bned, cp, cn, cnp, cnn, if_pos, if_neg, wrap64, Option.bind_some, Bool.not_true, Bool.not_false, List.isEmpty_nil, List.nil_append, List.length_nil, List.length_cons, Nat.zero_add, acc, ne_eq, not_true_eq_false]
        exact ha
      · rw [tk] at acc
        cases o with
        | nil => exact absurd ((ho.mem k).2 ⟨k, rfl, hk, tk⟩) (by simp)
        | cons a t =>
          simp only [List.headD_cons] at eb
          obtain ⟨i, e1, e2, e3⟩ := ho.head
          subst e1
          subst eb
          have f := ho.first hk tk
          have w : cntF ((l.getD i .undef).cell 14).i ((l.getD i .undef).cell 15).i ((l.getD i .undef).cell 16).i 2 ≤ cntF ((l.getD k .undef).cell 14).i ((l.getD k .undef).cell 15).i ((l.getD k .undef).cell 16).i 2 := by
            rcases f with f | f
            · have : i = k := by omega
              rw [this]; exact Int.le_refl _
            · have h2 : cmpJ (l.getD i .undef) (l.getD k .undef) ≤ 0 := by
                unfold Bef cL at f
                simp only [Int.toNat_natCast] at f
                omega
              exact cmpJ_bads h2
          have z : x = 7 → cntF ((l.getD k .undef).cell 14).i ((l.getD k .undef).cell 15).i ((l.getD k .undef).cell 16).i 2 = 0 := fun e => by
            subst e
            exact takes7 y _ _ _ tk
          have w1 := wrong_ok ((l.getD i .undef).cell 14).i ((l.getD i .undef).cell 15).i ((l.getD i .undef).cell 16).i
          have w2 := wrong_ok ((l.getD k .undef).cell 14).i ((l.getD k .undef).cell 15).i ((l.getD k .undef).cell 16).i
          clear ho hb f
          by_cases x7 : x = 7
          · have z := z x7
            by_cases ki : k = i
            · have ki' : (k : Int) = i := by omega
              simp (disch := omega) only [decide_true, decide_false, if_true, if_false, Bool.false_eq_true, Bool.true_eq_false, eq_self, Bool.true_or, Bool.false_or, Bool.true_and, Bool.false_and, Bool.or_true, Bool.or_false, Bool.and_true, Bool.and_false, List.getD_cons_zero, List.getD_cons_succ, cell_int, cell_bool, cell_str, cell_sl, cell_agg, i_int, b_bool, s_str, nb_sl, els_sl, nb_ov, els_ov, cs_pv, cs_agg, Int.toNat_natCast, toNat_sub1, toNat_add1, List.length_map, getD_map, ct, cf, beqd, bned, cp, cn, cnp, cnn, if_pos, if_neg, wrap64, Option.bind_some, Bool.not_true, Bool.not_false, List.isEmpty_nil, List.nil_append, List.length_nil, List.length_cons, Nat.zero_add, acc, ne_eq, not_true_eq_false, w1, w2]
              exact ha
            · have ki' : ¬ (k : Int) = i := by omega
              simp (disch := omega) only [decide_true, decide_false, if_true, if_false, Bool.false_eq_true, Bool.true_eq_false, eq_self, Bool.true_or, Bool.false_or, Bool.true_and, Bool.false_and, Bool.or_true, Bool.or_false, Bool.and_true, Bool.and_false, List.getD_cons_zero, List.getD_cons_succ, cell_int, cell_bool, cell_str, cell_sl, cell_agg, i_int, b_bool, s_str, nb_sl, els_sl, nb_ov, els_ov, cs_pv, cs_agg, Int.toNat_natCast, toNat_sub1, toNat_add1, List.length_map, getD_map, ct, cf, beqd, bned, cp, cn, cnp, cnn, if_pos, if_neg, wrap64, Option.bind_some, Bool.not_true, Bool.not_false, List.isEmpty_nil, List.nil_append, List.length_nil, List.length_cons, Nat.zero_add, acc, ne_eq, not_true_eq_false, w1, w2]
              exact ha
          · by_cases ki : k = i
            · have ki' : (k : Int) = i := by omega
              simp (disch := omega) only [decide_true, decide_false, if_true, if_false, Bool.false_eq_true, Bool.true_eq_false, eq_self, Bool.true_or, Bool.false_or, Bool.true_and, Bool.false_and, Bool.or_true, Bool.or_false, Bool.and_true, Bool.and_false, List.getD_cons_zero, List.getD_cons_succ, cell_int, cell_bool, cell_str, cell_sl, cell_agg, i_int, b_bool, s_str, nb_sl, els_sl, nb_ov, els_ov, cs_pv, cs_agg, Int.toNat_natCast, toNat_sub1, toNat_add1, List.length_map, getD_map, ct, cf, beqd, bned, cp, cn, cnp, cnn, if_pos, if_neg, wrap64, Option.bind_some, Bool.not_true, Bool.not_false, List.isEmpty_nil, List.nil_append, List.length_nil, List.length_cons, Nat.zero_add, acc, ne_eq, not_true_eq_false, w1, w2]
              exact ha
            · have ki' : ¬ (k : Int) = i := by omega
              simp (disch := omega) only [decide_true, decide_false, if_true, if_false, Bool.false_eq_true, Bool.true_eq_false, eq_self, Bool.true_or, Bool.false_or, Bool.true_and, Bool.false_and, Bool.or_true, Bool.or_false, Bool.and_true, Bool.and_false, List.getD_cons_zero, List.getD_cons_succ, cell_int, cell_bool, cell_str, cell_sl, cell_agg, i_int, b_bool, s_str, nb_sl, els_sl, nb_ov, els_ov, cs_pv, cs_agg, Int.toNat_natCast, toNat_sub1, toNat_add1, List.length_map, getD_map, ct, cf, beqd, bned, cp, cn, cnp, cnn, if_pos, if_neg, wrap64, Option.bind_some, Bool.not_true, Bool.not_false, List.isEmpty_nil, List.nil_append, List.length_nil, List.length_cons, Nat.zero_add, acc, ne_eq, not_true_eq_false, w1, w2]
              exact ha
    · unfold gatepathlaw44_PolicyLast.b0
      simp (disch := omega) only [decide_true, decide_false, if_true, if_false, Bool.false_eq_true, Bool.true_eq_false, eq_self, Bool.true_or, Bool.false_or, Bool.true_and, Bool.false_and, Bool.or_true, Bool.or_false, Bool.and_true, Bool.and_false, List.getD_cons_zero, List.getD_cons_succ, cell_int, cell_bool, cell_str, cell_sl, cell_agg, i_int, b_bool, s_str, nb_sl, els_sl, nb_ov, els_ov, cs_pv, cs_agg, Int.toNat_natCast, toNat_sub1, toNat_add1, List.length_map, getD_map, ct, cf, beqd, bned, cp, cn, cnp, cnn, if_pos, if_neg, wrap64, Option.bind_some, Bool.not_true, Bool.not_false, List.isEmpty_nil, List.nil_append, List.length_nil, List.length_cons, Nat.zero_add]
  have lp := lp _ rfl
  have rng : -1 ≤ o.headD (-1) ∧ o.headD (-1) < (l.length : Nat) := by
    cases o with
    | nil => simp only [List.headD_nil]; omega
    | cons a t =>
      obtain ⟨i, e1, e2, e3⟩ := ho.head
      simp only [List.headD_cons]
      omega
  generalize o.headD (-1) = b at *
  clear ho
  simp (disch := omega) only [decide_true, decide_false, if_true, if_false, Bool.false_eq_true, Bool.true_eq_false, eq_self, Bool.true_or, Bool.false_or, Bool.true_and, Bool.false_and, Bool.or_true, Bool.or_false, Bool.and_true, Bool.and_false, List.getD_cons_zero, List.getD_cons_succ, cell_int, cell_bool, cell_str, cell_sl, cell_agg, i_int, b_bool, s_str, nb_sl, els_sl, nb_ov, els_ov, cs_pv, cs_agg, Int.toNat_natCast, toNat_sub1, toNat_add1, List.length_map, getD_map, ct, cf, beqd, bned, cp, cn, cnp, cnn, if_pos, if_neg, wrap64, Option.bind_some, Bool.not_true, Bool.not_false, List.isEmpty_nil, List.nil_append, List.length_nil, List.length_cons, Nat.zero_add, alive_is, hg, g, hb, ne_eq, not_true_eq_false]
  exact lp

theorem policyLast_law : LawTrue ty tab 5 [⟨true, [.int .u8, .int .u8]⟩, ⟨false, [.sl 39]⟩] := by
  refine lawTrue_of fun dd hf hw => ?_
  obtain ⟨d1, dd, rfl, h1, hf⟩ := fitsV_cons hf
  obtain ⟨d2, dd, rfl, h2, hf⟩ := fitsV_cons hf
  obtain rfl := fitsV_nil hf
  obtain ⟨cs, rfl, hcs⟩ := fits_agg h1
  obtain ⟨e1, cs, rfl, g1, hcs⟩ := fitsL_cons hcs
  obtain ⟨e2, cs, rfl, g2, hcs⟩ := fitsL_cons hcs
  obtain rfl := fitsL_nil hcs
  obtain ⟨x, rfl⟩ := fits_int g1
  obtain ⟨y, rfl⟩ := fits_int g2
  have w2 := hw d2 (by simp)
  obtain ⟨n, l, rfl, hj, hs⟩ := judged_of h2 w2
  exact policyLast_cl x y n l hj hs

end Go.Proofs.Ytekkbhmlocageaa.Own
