import Derived.Test.YtmfhhbiaghejjaaL
import Derived.Test.YtmfhhbiaghejjaaRFreshLooks
namespace Go.Proofs.Ytmfhhbiaghejjaa.Own
open Go Go.Proofs.Ytmfhhbiaghejjaa.GD
set_option linter.unusedVariables false
set_option linter.unusedSimpArgs false

theorem fine_looks {els : List D} {nb : Bool} (h : WT ty (.sl 47 nb els)) : Fine els ∧ (nb = true → els = []) := by
  obtain ⟨hl, hn, hf, hw⟩ := h.els
  exact ⟨⟨hl, fun d hd => hf ⟨true, ks0⟩ (by rfl) d hd⟩, hn⟩

theorem lookV_len {l : List D} {x : D} {now : Int} (h : l.length ≤ 210) : (lookV l x now).1.length ≤ 211 := by
  have h1 := putF_len x l
  have hw : ∀ o, (lookW l x now o).1.length ≤ 211 := by
    intro o
    unfold lookW
    split
    · simp only; omega
    · split
      · simp only; omega
      · cases o with
        | none => simp only; split <;> simp <;> omega
        | some d => simp only; split <;> simp only <;> omega
  unfold lookV
  split
  · simp
  · split
    · cases look l (uri x) with
      | none => exact hw _
      | some d => simp only; split
                  · simp
                  · exact hw _
    · simp

set_option maxHeartbeats 1000000 in
theorem freshLooks_cl (n : Bool) (l : List D) (x : D) (now : Int) (hl : Fine l) (hx : Fit x) (hn : n = true → l = []) : Cl ty tab 5 [.sl 47 n l, x, .int .i64 now] = some [.bool true] := by
  obtain ⟨k, hk⟩ := rounds
  have ex : D.agg (etaCells ks0 x 0) = x := eta_fit hx
  have := s_gatepathlaw29_FreshLooks k n l x now (r := [.bool true]) ?_
  · rwa [ex] at this
  unfold gatepathlaw29_FreshLooks
  simp only [ex]
  cases hg : greatF l
  case true => simp (disch := omega) only [decide_true, decide_false, if_true, if_false, Bool.false_eq_true, Bool.true_eq_false, eq_self, Bool.true_or, Bool.false_or, Bool.true_and, Bool.false_and, Bool.or_true, Bool.or_false, Bool.and_true, Bool.and_false, List.getD_cons_zero, List.getD_cons_succ, cell_int, cell_bool, cell_str, cell_sl, cell_agg, i_int, b_bool, s_str, nb_sl, els_sl, nb_ov, els_ov, cs_pv, cs_agg, Int.toNat_natCast, toNat_sub1, toNat_add1, List.length_map, getD_map, ct, cf, beqd, bned, cp, cn, cnp, cnn, if_pos, if_neg, wrap64, Option.bind_some, Bool.not_true, Bool.not_false, List.isEmpty_nil, List.nil_append, List.length_nil, List.length_cons, Nat.zero_add, great_ok n l hl, hg]
  have hg2 := (greatF_small hg).1
  by_cases h1 : 300 < (x.cell 0).s.size
  · simp (disch := omega) only [decide_true, decide_false, if_true, if_false, Bool.false_eq_true, Bool.true_eq_false, eq_self, Bool.true_or, Bool.false_or, Bool.true_and, Bool.false_and, Bool.or_true, Bool.or_false, Bool.and_true, Bool.and_false, List.getD_cons_zero, List.getD_cons_succ, cell_int, cell_bool, cell_str, cell_sl, cell_agg, i_int, b_bool, s_str, nb_sl, els_sl, nb_ov, els_ov, cs_pv, cs_agg, Int.toNat_natCast, toNat_sub1, toNat_add1, List.length_map, getD_map, ct, cf, beqd, bned, cp, cn, cnp, cnn, if_pos, if_neg, wrap64, Option.bind_some, Bool.not_true, Bool.not_false, List.isEmpty_nil, List.nil_append, List.length_nil, List.length_cons, Nat.zero_add, great_ok n l hl, hg]
  obtain ⟨m1, hm1, _⟩ := look_ok n l x now hl hx hn
  obtain ⟨m2, hm2⟩ := rlook_ok n l x now hl hx
  have hlen := lookV_len (x := x) (now := now) hg2
  generalize lookV l x now = v at *
  have hsame := sameP_ok m1 m2 v.1 (by omega)
  have hcond : (([] : List D).length + l.length) * 80 ≤ 140737488355328 := by simp; omega
  have hlast : ∀ b, Cl ty tab 14 [.sl 47 n l, .sl 47 b l] = some [.bool true] := fun b => sameP_ok n b l hl.len
  simp (disch := omega) only [decide_true, decide_false, if_true, if_false, Bool.false_eq_true, Bool.true_eq_false, eq_self, Bool.true_or, Bool.false_or, Bool.true_and, Bool.false_and, Bool.or_true, Bool.or_false, Bool.and_true, Bool.and_false, List.getD_cons_zero, List.getD_cons_succ, cell_int, cell_bool, cell_str, cell_sl, cell_agg, i_int, b_bool, s_str, nb_sl, els_sl, nb_ov, els_ov, cs_pv, cs_agg, Int.toNat_natCast, toNat_sub1, toNat_add1, List.length_map, getD_map, ct, cf, beqd, bned, cp, cn, cnp, cnn, if_pos, if_neg, wrap64, Option.bind_some, Bool.not_true, Bool.not_false, List.isEmpty_nil, List.nil_append, List.length_nil, List.length_cons, Nat.zero_add, great_ok n l hl, hg, hm1, hm2, hsame, hcond]
  have := iter_wf (F := gatepathlaw29_FreshLooks.b0 (Cl ty tab) k n l [.ov 47 m1 v.1, .int .u8 v.2.1, .int .i64 v.2.2] [.ov 47 m2 v.1, .int .u8 v.2.1, .int .i64 v.2.2]) (σ := List D × Nat)
    (fun q => [.int .i64 q.2, .ov 47 false l, .ov 47 m1 q.1]) (fun _ => some [.bool true]) (fun q => v.1.length - q.2) (fun q => q.1.length = v.1.length ∧ q.2 ≤ v.1.length)
    (fun q hq again hag => ?_) k (v.1, 0) ⟨rfl, Nat.zero_le _⟩ (by simp only; omega)
  · simpa using this
  · obtain ⟨A, i⟩ := q
    obtain ⟨q1, q2⟩ := hq
    simp only at q1 q2 hag ⊢
    unfold gatepathlaw29_FreshLooks.b0
    rcases Nat.lt_or_ge i v.1.length with hi | hi
    · have hz : ∀ S : List D, S.length = A.length → again [.int .i64 ((i : Int) + 1), .ov 47 false l, .ov 47 m1 S] = some [.bool true] := fun S hS => by
        have := hag (S, i + 1) ⟨by simp only; omega, by simp only; omega⟩ (by simp only; omega)
        simpa using this
      clear hag hm1 hm2 hsame hlast hx hl hn ex hcond
      simp (disch := omega) only [decide_true, decide_false, if_true, if_false, Bool.false_eq_true, Bool.true_eq_false, eq_self, Bool.true_or, Bool.false_or, Bool.true_and, Bool.false_and, Bool.or_true, Bool.or_false, Bool.and_true, Bool.and_false, List.getD_cons_zero, List.getD_cons_succ, cell_int, cell_bool, cell_str, cell_sl, cell_agg, i_int, b_bool, s_str, nb_sl, els_sl, nb_ov, els_ov, cs_pv, cs_agg, Int.toNat_natCast, toNat_sub1, toNat_add1, List.length_map, getD_map, ct, cf, beqd, bned, cp, cn, cnp, cnn, if_pos, if_neg, wrap64, Option.bind_some, Bool.not_true, Bool.not_false, List.isEmpty_nil, List.nil_append, List.length_nil, List.length_cons, Nat.zero_add]
      refine hz _ ?_
      simp
    · simp (disch := omega) only [decide_true, decide_false, if_true, if_false, Bool.false_eq_true, Bool.true_eq_false, eq_self, Bool.true_or, Bool.false_or, Bool.true_and, Bool.false_and, Bool.or_true, Bool.or_false, Bool.and_true, Bool.and_false, List.getD_cons_zero, List.getD_cons_succ, cell_int, cell_bool, cell_str, cell_sl, cell_agg, i_int, b_bool, s_str, nb_sl, els_sl, nb_ov, els_ov, cs_pv, cs_agg, Int.toNat_natCast, toNat_sub1, toNat_add1, List.length_map, getD_map, ct, cf, beqd, bned, cp, cn, cnp, cnn, if_pos, if_neg, wrap64, Option.bind_some, Bool.not_true, Bool.not_false, List.isEmpty_nil, List.nil_append, List.length_nil, List.length_cons, Nat.zero_add, hlast]

theorem freshLooks_law : LawTrue ty tab 5 [⟨false, [.sl 47]⟩, ⟨true, ks0⟩, ⟨false, [.int .i64]⟩] := by
  refine lawTrue_of fun dd hf hw => ?_
  obtain ⟨d1, dd, rfl, h1, hf⟩ := fitsV_cons hf
  obtain ⟨d2, dd, rfl, h2, hf⟩ := fitsV_cons hf
  obtain ⟨d3, dd, rfl, h3, hf⟩ := fitsV_cons hf
  obtain rfl := fitsV_nil hf
  obtain ⟨n, els, rfl⟩ := fits_sl (fits_one h1)
  obtain ⟨x, rfl⟩ := fits_int (fits_one h3)
  obtain ⟨hl, hn⟩ := fine_looks (hw (.sl 47 n els) (by simp))
  exact freshLooks_cl n els d2 x hl h2 hn

end Go.Proofs.Ytmfhhbiaghejjaa.Own
