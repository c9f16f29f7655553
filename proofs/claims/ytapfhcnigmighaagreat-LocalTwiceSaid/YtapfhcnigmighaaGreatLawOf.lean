import Derived.Test.YtapfhcnigmighaaGreatOf
import Derived.Test.YtapfhcnigmighaaGreatApply
set_option linter.unusedVariables false
set_option linter.unusedSimpArgs false
namespace Go.Proofs.YtapfhcnigmighaaGreat.Own
open Go Go.Proofs.YtapfhcnigmighaaGreat.GD
theorem pay_of {d : D} (hf : Vk.fits ⟨true, [.sl 58, .sl 84, .sl 64]⟩ d = true) (hw : WT ty d) :
  ∃ n m t o p q, d = payD n m t o p q ∧ Pay o p q ∧ (n = true → o = []) ∧ (m = true → p = []) ∧ (t = true → q = []) ∧ NnL p := by
 obtain ⟨cs, rfl, hc⟩ := fits_agg hf
 obtain ⟨a, cs, rfl, ha, hc⟩ := fitsL_cons hc
 obtain ⟨b, cs, rfl, hb, hc⟩ := fitsL_cons hc
 obtain ⟨c, cs, rfl, hcc, hc⟩ := fitsL_cons hc
 obtain rfl := fitsL_nil hc
 obtain ⟨n, o, rfl⟩ := fits_sl ha
 obtain ⟨m, p, rfl⟩ := fits_sl hb
 obtain ⟨t, q, rfl⟩ := fits_sl hcc
 obtain ⟨a1, a2, a3, a4⟩ := (hw.cells (.sl 58 n o) (by simp)).els
 obtain ⟨b1, b2, b3, b4⟩ := (hw.cells (.sl 84 m p) (by simp)).els
 obtain ⟨c1, c2, c3, c4⟩ := (hw.cells (.sl 64 t q) (by simp)).els
 refine ⟨n, m, t, o, p, q, rfl, ⟨fun d hd => og_of (a3 _ rfl d hd) (a4 d hd), fun d hd => pg_of (b3 _ rfl d hd) (b4 d hd), fun d hd => kg_of (c3 _ rfl d hd) (c4 d hd), a1, b1, c1⟩, a2, b2, c2, fun d hd => ?_⟩
 have hf := b3 _ rfl d hd
 have hw := b4 d hd
 obtain ⟨h1, h2⟩ := wt_cell hf hw (j := 1) rfl
 obtain ⟨nb, els, hn⟩ := fits_sl h2
 rw [hn] at h1 ⊢
 exact h1.els.2.1
theorem nnl_of {x : D} (hf : Vk.fits ⟨true, xKs⟩ x = true) (hw : WT ty x) : NnL (x.cell 4).els := by
 obtain ⟨n4, h4⟩ := els_of hf hw (j := 4) rfl (k := ⟨true, [.int .u32, .sl 51]⟩) rfl
 intro d hd
 obtain ⟨h1, h2⟩ := wt_cell (h4 d hd).1 (h4 d hd).2 (j := 1) rfl
 obtain ⟨nb, els, hn⟩ := fits_sl h2
 rw [hn] at h1 ⊢
 exact h1.els.2.1
end Go.Proofs.YtapfhcnigmighaaGreat.Own
