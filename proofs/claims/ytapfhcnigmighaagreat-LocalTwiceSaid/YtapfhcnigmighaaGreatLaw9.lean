import Derived.Test.YtapfhcnigmighaaGreatTwiP
import Derived.Test.YtapfhcnigmighaaGreatJoin
import Derived.Test.YtapfhcnigmighaaGreatAl
import Derived.Test.YtapfhcnigmighaaGreatLawOf
import Derived.Test.YtapfhcnigmighaaGreatNilP
import Derived.Test.YtapfhcnigmighaaGreatRLocalTwice
set_option linter.unusedVariables false
set_option linter.unusedSimpArgs false
namespace Go.Proofs.YtapfhcnigmighaaGreat.Own
open Go Go.Proofs.YtapfhcnigmighaaGreat.GD
section
variable (n m t : Bool) (o p q : List D) (x : D) (hp : Pay o p q) (hx : Xg x) (hn : n = true → o = []) (hm : m = true → p = []) (ht : t = true → q = []) (hN : NnL p) (hN2 : NnL (x.cell 4).els)
include hp hx hn hm ht hN hN2
theorem law9_cl : Cl ty tab 9 [payD n m t o p q, x] = some [.bool true] := by
 have ex : D.agg (etaCells ks0 x 0) = x := hx.eta
 have key := s_gatepathlaw43_LocalTwice 0 n o m p t q x (r := [.bool true]) ?_
 · rwa [show D.agg (etaCells ks0 x 0) = x from ex] at key
 unfold gatepathlaw43_LocalTwice
 rw [ex, alive_is]
 obtain ⟨b, hb, hbs⟩ := Great34_ok n m t o p q hp
 cases b
 case true => simp (disch := omega) only [gds, hb]
 obtain ⟨b, hb2, hbs2⟩ := Great43_ok x hx
 cases b
 case true => simp (disch := omega) only [gds, hb, hb2]
 have hc := diffCheck_ok n m t o p q hp
 have h0 : (payC o p q ≠ 0 ∧ Cl ty tab 21 [payD n m t o p q, nilRul] = some [nilPay, .int .i64 (payC o p q)]) ∨ (payC o p q = 0 ∧ Cl ty tab 21 [payD n m t o p q, nilRul] = some [payD false p.isEmpty false o p q, .int .i64 0]) := by
  by_cases h1 : payC o p q = 0
  · refine .inr ⟨h1, ?_⟩
    obtain ⟨_, _, h⟩ := apply_is n m t o p q nilRul hp xg_nil hn hm ht hN (fun d h => by cases h) h1 xC_nil
    have e1 : (o.filter fun d => !goneO nilRul d) = o := filt_all fun d => rfl
    have e2 : (p.filter fun d => !goneP nilRul d) = p := filt_all fun d => rfl
    have e3 : (q.filter fun d => !goneK nilRul d) = q := filt_all fun d => rfl
    rw [e1, e2, e3] at h
    have e4 : mO o (nilRul.cell 3).els = o := mO_nil o
    have e5 : mP p (nilRul.cell 4).els = p := mP_nil p
    have e6 : mK q (nilRul.cell 5).els = q := mK_nil q
    rw [e4, e5, e6, if_pos h1] at h
    exact h
  · refine .inl ⟨h1, ?_⟩
    have e : firstN [payC o p q, xC nilRul] = payC o p q := by simp [firstN, h1]
    have hf := apply_bad n m t o p q nilRul hp xg_nil (by rw [e]; exact h1)
    rwa [e] at hf
 rcases h0 with ⟨h1, h0⟩ | ⟨h1, h0⟩
 ·
   have he : firstN [payC o p q, xC x] = payC o p q := by simp [firstN, h1]
   have ha := apply_bad n m t o p q x hp hx (by rw [he]; exact h1)
   rw [he] at ha
   simp (disch := omega) only [gds, hb, hb2, hc, h0, h1, ha, ne_eq, not_false_eq_true, not_true_eq_false]
 · have e34 : Cl ty tab 23 [payD false p.isEmpty false o p q, payD n m t o p q] = some [.bool true] := by
    obtain ⟨r, hr, hr2⟩ := same34_ok false p.isEmpty false n m t o p q o p q hp hp
    obtain rfl : r = true := hr2.2 ⟨rfl, rfl, rfl⟩
    exact hr
   by_cases h2 : xC x = 0
   case neg =>
    have he : firstN [payC o p q, xC x] = xC x := by simp [firstN, h1, h2]
    have ha := apply_bad n m t o p q x hp hx (by rw [he]; exact h2)
    rw [he] at ha
    simp (disch := omega) only [gds, hb, hb2, hc, h0, h1, e34, ha, h2, ne_eq, not_false_eq_true, not_true_eq_false]
   obtain ⟨s1, s2, ha⟩ := apply_is n m t o p q x hp hx hn hm ht hN hN2 h1 h2
   split at ha
   case isFalse => simp (disch := omega) only [gds, hb, hb2, hc, h0, h1, e34, ha, ne_eq, not_false_eq_true, not_true_eq_false]
   rename_i h3
   have s3 := sh_filter (fun d => !goneO x d) (fun d => !goneP x d) (fun d => !goneK x d) s1
   have hpp := pay_mrg _ _ _ _ _ _ s3 s2
   have tO := twiO hp hx h1 h2
   have tK := twiK hp hx h1 h2
   have tP := twiP hx h1 h2 hN2
   have hNN : NnL (mP (p.filter fun d => !goneP x d) (x.cell 4).els) := nn_mrg s3.nn hN2 fun u hu v hv => (unD_pg u v (s3.pay.hp u hu).1 (s2.pay.hp v hv).1 (by have := s3.el u hu; omega) (by have := s2.el v hv; omega)).2.1
   obtain ⟨m2, ha2⟩ := apply_good false (mP (p.filter fun d => !goneP x d) (x.cell 4).els).isEmpty false _ _ _ x hpp hx (fun h => by cases h) (fun h => by simpa using h) (fun h => by cases h) hNN hN2 h3 h2 (by rw [tO, tP, tK]; exact h3)
   rw [tO, tP, tK] at ha2
   obtain ⟨r, hr, hr2⟩ := same34_ok false (mP (p.filter fun d => !goneP x d) (x.cell 4).els).isEmpty false false m2 false _ _ _ _ _ _ hpp hpp
   obtain rfl : r = true := hr2.2 ⟨rfl, rfl, rfl⟩
   obtain ⟨m3, hj⟩ := join1_ok x hx hN2 h2
   have hxj := xg_rul false false false false m3 false (jn_of hx h2) hx.pay
   obtain ⟨r2, hs, hs2⟩ := same43_ok x _ hx hxj
   obtain rfl : r2 = true := hs2.2 ⟨rfl, rfl, rfl, rfl, rfl, rfl⟩
   have ej : D.agg (etaCells ks0 (rulD false false false false m3 false (x.cell 0).els (x.cell 1).els (x.cell 2).els (x.cell 3).els (x.cell 4).els (x.cell 5).els) 0) = rulD false false false false m3 false (x.cell 0).els (x.cell 1).els (x.cell 2).els (x.cell 3).els (x.cell 4).els (x.cell 5).els := rfl
   generalize mO (o.filter fun d => !goneO x d) (x.cell 3).els = O' at *
   generalize mP (p.filter fun d => !goneP x d) (x.cell 4).els = P' at *
   generalize mK (q.filter fun d => !goneK x d) (x.cell 5).els = K' at *
   generalize rulD false false false false m3 false (x.cell 0).els (x.cell 1).els (x.cell 2).els (x.cell 3).els (x.cell 4).els (x.cell 5).els = X' at *
   clear tO tK tP hNN hpp s1 s2 s3 hN hN2 hn hm ht hbs hbs2 hxj hp hx h2 h3 hr2 hs2
   simp (disch := omega) only [gds, hb, hb2, hc, h0, h1, e34, ha, ha2, hr, hj, hs, ej, ne_eq, not_false_eq_true, not_true_eq_false]
end
theorem localTwice_law : LawTrue ty tab 9 [⟨true, [.sl 58, .sl 84, .sl 64]⟩, ⟨true, xKs⟩] := by
 refine lawTrue_of fun dd hf hw => ?_
 obtain ⟨d1, dd, rfl, h1, hf⟩ := fitsV_cons hf
 obtain ⟨d2, dd, rfl, h2, hf⟩ := fitsV_cons hf
 obtain rfl := fitsV_nil hf
 obtain ⟨n, m, t, o, p, q, rfl, hp, hn, hm, ht, hN⟩ := pay_of h1 (hw _ (by simp))
 exact law9_cl n m t o p q d2 hp (xg_of h2 (hw _ (by simp))) hn hm ht hN (nnl_of h2 (hw _ (by simp)))
end Go.Proofs.YtapfhcnigmighaaGreat.Own
