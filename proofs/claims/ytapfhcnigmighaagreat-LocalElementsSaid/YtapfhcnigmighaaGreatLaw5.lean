import Derived.Test.YtapfhcnigmighaaGreatElements
import Derived.Test.YtapfhcnigmighaaGreatLawOf
set_option linter.unusedVariables false
set_option linter.unusedSimpArgs false
namespace Go.Proofs.YtapfhcnigmighaaGreat.Own
open Go Go.Proofs.YtapfhcnigmighaaGreat.GD
theorem law_cl (n m t : Bool) (o p q : List D) (x d e : D) (v : Int) (hp : Pay o p q) (hx : Xg x) (hd : Og d) (he : Kg e) (hn : n = true → o = []) (hm : m = true → p = []) (ht : t = true → q = []) (hN : NnL p) (hN2 : NnL (x.cell 4).els) :
  Cl ty tab 5 [payD n m t o p q, x, d, e, .int .u32 v] = some [.bool true] := by
 obtain ⟨k, hk⟩ := rounds
 have ex : D.agg (etaCells ks0 x 0) = x := hx.eta
 have ed := hd.eta
 have ee := he.eta
 have := s_gatepathlaw43_LocalElements k n o m p t q x d e v (r := [.bool true]) ?_
 · rwa [show D.agg (etaCells ks0 x 0) = x from ex, ed, ee] at this
 unfold gatepathlaw43_LocalElements
 rw [ex, ed, ee, alive_is]
 obtain ⟨b, hb, hbs⟩ := Great34_ok n m t o p q hp
 cases b
 case true => simp (disch := omega) only [gds, hb]
 obtain ⟨b, hb2, hbs2⟩ := Great43_ok x hx
 cases b
 case true => simp (disch := omega) only [gds, hb, hb2]
 have hs := hbs rfl
 have hs2 := hbs2 rfl
 rcases apply_ok n m t o p q x hp hx hn hm ht hN hN2 with ⟨r, hr, ha⟩ | ⟨m'', h1, h2, h3, h4, ha⟩
 · obtain ⟨r2, hr2, hr3⟩ := same34_ok true true true true true true [] [] [] [] [] [] ⟨fun d h => by simp at h, fun d h => by simp at h, fun d h => by simp at h, by simp, by simp, by simp⟩ ⟨fun d h => by simp at h, fun d h => by simp at h, fun d h => by simp at h, by simp, by simp, by simp⟩
   have : r2 = true := hr3.2 ⟨rfl, rfl, rfl⟩
   subst this
   simp (disch := omega) only [gds, hb, hb2, ha, hr, hr2, nilPay, ne_eq, not_false_eq_true]
 · have s3 := sh_filter (fun d => !goneO x d) (fun d => !goneP x d) (fun d => !goneK x d) h2
   have hpp := pay_mrg _ _ _ _ _ _ s3 h3
   have l1 := hpp.no
   obtain ⟨f1, f2, f3, f4⟩ := payC_zero h4
   have mo := memO x d o (x.cell 3).els hd h2.pay.ho h3.pay.ho
   have mk := memK x e q (x.cell 5).els he h2.pay.hq h3.pay.hq
   have mp := memP x v p (x.cell 4).els
   rw [idx_any] at mp
   have c1 := hasO_ok n o d hd (by have := h2.no; omega)
   have c2 := hasK_ok t q e he (by have := h2.nq; omega)
   have c3 := hasP_ok m p v (by have := h2.np; omega)
   have el := elem0 k (by omega) x d e v m'' _ _ _ (o.any (eqO d)) (q.any (eqK e)) (p.any (eqP v)) hx hd he (by have := hs2.f; omega) (by have := hs2.y; omega) (by have := hs2.c; omega) (by have := h3.no; omega) (by have := h3.np; omega) (by have := h3.nq; omega) (by omega) (by omega) (by omega) hpp h4 mo mk mp
   simp (disch := omega) only [gds, hb, hb2, ha, c1, c2, c3, ne_eq, not_true_eq_false]
   simpa only [stE, Int.natCast_zero] using el
theorem localElements_law : LawTrue ty tab 5 [⟨true, [.sl 58, .sl 84, .sl 64]⟩, ⟨true, xKs⟩, ⟨true, oKs⟩, ⟨true, kKs⟩, ⟨false, [.int .u32]⟩] := by
 refine lawTrue_of fun dd hf hw => ?_
 obtain ⟨d1, dd, rfl, h1, hf⟩ := fitsV_cons hf
 obtain ⟨d2, dd, rfl, h2, hf⟩ := fitsV_cons hf
 obtain ⟨d3, dd, rfl, h3, hf⟩ := fitsV_cons hf
 obtain ⟨d4, dd, rfl, h4, hf⟩ := fitsV_cons hf
 obtain ⟨d5, dd, rfl, h5, hf⟩ := fitsV_cons hf
 obtain rfl := fitsV_nil hf
 obtain ⟨n, m, t, o, p, q, rfl, hp, hn, hm, ht, hN⟩ := pay_of h1 (hw _ (by simp))
 obtain ⟨v, rfl⟩ := fits_int (fits_one h5)
 exact law_cl n m t o p q d2 d3 d4 v hp (xg_of h2 (hw _ (by simp))) (og_of h3 (hw _ (by simp))) (kg_of h4 (hw _ (by simp))) hn hm ht hN (nnl_of h2 (hw _ (by simp)))
end Go.Proofs.YtapfhcnigmighaaGreat.Own
