import Derived.Test.YtklbnnkdkkcgoaaD
namespace Go.Proofs.Ytklbnnkdkkcgoaa.Own
open Go Go.Proofs.Ytklbnnkdkkcgoaa.GD
set_option linter.unusedVariables false
set_option linter.unusedSimpArgs false

/-- what the values of the kinds tell -/
theorem ints_of {els : List D} {nb : Bool} (h : WT ty (.sl 23 nb els)) : ∃ L : List Int, els = U L ∧ L.length ≤ 9223372036854775807 ∧ (nb = true → L = []) ∧ ∀ x, x ∈ L → 0 ≤ x ∧ x ≤ 4294967295 := by
  obtain ⟨hl, hn, hf, hw⟩ := h.els
  obtain ⟨L, rfl, hL⟩ := decode_list (f := fun x => D.int .u32 x) (Q := fun x => 0 ≤ x ∧ x ≤ 4294967295) (els := els) fun d hd => by
    obtain ⟨x, rfl⟩ := fits_int (fits_one (hf ⟨false, [.int .u32]⟩ (by rfl) d hd))
    exact ⟨x, rfl, (hw _ hd).rng⟩
  exact ⟨L, rfl, by simpa using hl, fun h => by have := hn h; simpa using this, hL⟩

theorem ats_of {els : List D} {nb : Bool} (h : WT ty (.sl 46 nb els)) : ∃ L : List At, els = L.map At.d ∧ Fine L := by
  obtain ⟨hl, hn, hf, hw⟩ := h.els
  obtain ⟨L, rfl, hL⟩ := decode_list (f := At.d) (Q := fun a => a.p.length ≤ 9223372036854775807) (els := els) fun d hd => by
    obtain ⟨cs, rfl, h1⟩ := fits_agg (hf ⟨true, [.int .u32, .sl 23]⟩ (by rfl) d hd)
    have h2 := (hw _ hd).cells
    obtain ⟨x, cs, rfl, h3, h1⟩ := fitsL_cons h1
    obtain ⟨y, cs, rfl, h4, h1⟩ := fitsL_cons h1
    obtain rfl := fitsL_nil h1
    obtain ⟨c, rfl⟩ := fits_int h3
    obtain ⟨nb, els, rfl⟩ := fits_sl h4
    obtain ⟨P, rfl, h5, _, _⟩ := ints_of (h2 (.sl 23 nb els) (by simp))
    exact ⟨⟨_, _, P⟩, rfl, h5⟩
  exact ⟨L, rfl, by simpa using hl, hL⟩

end Go.Proofs.Ytklbnnkdkkcgoaa.Own
