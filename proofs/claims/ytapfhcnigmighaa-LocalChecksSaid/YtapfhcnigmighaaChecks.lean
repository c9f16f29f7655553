import Derived.Test.YtapfhcnigmighaaOf
import Derived.Test.YtapfhcnigmighaaRLocalChecks
namespace Go.Proofs.Ytapfhcnigmighaa.Own
open Go Go.Proofs.Ytapfhcnigmighaa.GD
set_option linter.unusedVariables false
set_option linter.unusedSimpArgs false

theorem localChecks_cl (x : D) (h : Xg x) : Cl ty tab 3 [x] = some [.bool true] := by
  have := s_gatepathlaw43_LocalChecks 0 x (r := [.bool true]) ?_
  · rwa [show D.agg (etaCells ks0 x 0) = x from h.eta] at this
  unfold gatepathlaw43_LocalChecks
  rw [show D.agg (etaCells ks0 x 0) = x from h.eta]
  obtain ⟨b, hb, hs⟩ := Great43_ok x h
  cases b
  case true => simp (disch := omega) only [decide_true, decide_false, if_true, if_false, Bool.false_eq_true, Bool.true_eq_false, eq_self, Bool.true_or, Bool.false_or, Bool.true_and, Bool.false_and, Bool.or_true, Bool.or_false, Bool.and_true, Bool.and_false, List.getD_cons_zero, List.getD_cons_succ, cell_int, cell_bool, cell_str, cell_sl, cell_agg, i_int, b_bool, s_str, nb_sl, els_sl, nb_ov, els_ov, cs_pv, cs_agg, Int.toNat_natCast, toNat_sub1, toNat_add1, List.length_map, getD_map, ct, cf, beqd, bned, cp, cn, cnp, cnn, if_pos, if_neg, wrap64, Option.bind_some, Bool.not_true, Bool.not_false, List.isEmpty_nil, List.nil_append, List.length_nil, List.length_cons, Nat.zero_add, hb]
  have hs := hs rfl
  have ht := twin43_ok x h hs
  have hc := localCheck_ok x h
  have hr := r43Check_ok x h
  obtain ⟨r, hsame, hr2⟩ := same43_ok x (twinX x) h (xg_twin h)
  have e : r = true := hr2.2 (sameX_twin x)
  subst e
  have et : D.agg (etaCells ks0 (twinX x) 0) = twinX x := (xg_twin h).eta
  simp (disch := omega) only [decide_true, decide_false, if_true, if_false, Bool.false_eq_true, Bool.true_eq_false, eq_self, Bool.true_or, Bool.false_or, Bool.true_and, Bool.false_and, Bool.or_true, Bool.or_false, Bool.and_true, Bool.and_false, List.getD_cons_zero, List.getD_cons_succ, cell_int, cell_bool, cell_str, cell_sl, cell_agg, i_int, b_bool, s_str, nb_sl, els_sl, nb_ov, els_ov, cs_pv, cs_agg, Int.toNat_natCast, toNat_sub1, toNat_add1, List.length_map, getD_map, ct, cf, beqd, bned, cp, cn, cnp, cnn, if_pos, if_neg, wrap64, Option.bind_some, Bool.not_true, Bool.not_false, List.isEmpty_nil, List.nil_append, List.length_nil, List.length_cons, Nat.zero_add, hb, ht, hc, hr, et, hsame]

theorem localChecks_law : LawTrue ty tab 3 [⟨true, xKs⟩] := by
  refine lawTrue_of fun dd hf hw => ?_
  obtain ⟨d1, dd, rfl, h1, hf⟩ := fitsV_cons hf
  obtain rfl := fitsV_nil hf
  exact localChecks_cl d1 (xg_of h1 (hw d1 (by simp)))

end Go.Proofs.Ytapfhcnigmighaa.Own
