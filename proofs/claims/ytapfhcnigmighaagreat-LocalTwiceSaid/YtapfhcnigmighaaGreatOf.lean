import Derived.Test.YtapfhcnigmighaaGreatLocal2
set_option linter.unusedVariables false
set_option linter.unusedSimpArgs false
namespace Go.Proofs.YtapfhcnigmighaaGreat.Own
open Go Go.Proofs.YtapfhcnigmighaaGreat.GD
theorem wt_cell {ks : List Sk} {d : D} (hf : Vk.fits ⟨true, ks⟩ d = true) (hw : WT ty d) {j : Nat} {s : Sk} (hs : ks[j]? = some s) : WT ty (d.cell j) ∧ fits s (d.cell j) = true := by
 obtain ⟨cs, rfl, hc⟩ := fits_agg hf
 obtain ⟨h1, h2⟩ := fitsL_spec hc
 have hj : j < cs.length := by
  rcases Nat.lt_or_ge j ks.length with h | h
  · omega
  · rw [List.getElem?_eq_none h] at hs; cases hs
 exact ⟨hw.cells _ (mem_getD hj), h2 j s hs⟩
theorem rng_of {ks : List Sk} {d : D} (hf : Vk.fits ⟨true, ks⟩ d = true) (hw : WT ty d) {j : Nat} {k : IntKind} (hs : ks[j]? = some (.int k)) : k.min ≤ (d.cell j).i ∧ (d.cell j).i ≤ k.max := by
 obtain ⟨h1, h2⟩ := wt_cell hf hw hs
 obtain ⟨n, hn⟩ := fits_int h2
 rw [hn] at h1 ⊢
 exact h1.rng
theorem els_of {ks : List Sk} {d : D} (hf : Vk.fits ⟨true, ks⟩ d = true) (hw : WT ty d) {j : Nat} {e : TypeId} (hs : ks[j]? = some (.sl e)) {k : Vk} (hk : ty e = some k) :
  (d.cell j).els.length ≤ 9223372036854775807 ∧ ∀ x, x ∈ (d.cell j).els → k.fits x = true ∧ WT ty x := by
 obtain ⟨h1, h2⟩ := wt_cell hf hw hs
 obtain ⟨nb, els, hn⟩ := fits_sl h2
 rw [hn] at h1 ⊢
 obtain ⟨a, _, b, c⟩ := h1.els
 exact ⟨a, fun x hx => ⟨b k hk x hx, c x hx⟩⟩
theorem nums_of {k : IntKind} : ∀ {l : List D}, (∀ x, x ∈ l → Vk.fits ⟨false, [.int k]⟩ x = true ∧ WT ty x) → ∃ L : List Int, l = L.map (D.int k) ∧ ∀ x, x ∈ L → k.min ≤ x ∧ x ≤ k.max
 | [], _ => ⟨[], rfl, fun x h => by cases h⟩
 | d :: l, h => by
  obtain ⟨L, rfl, hL⟩ := nums_of (l := l) fun x hx => h x (List.mem_cons_of_mem _ hx)
  obtain ⟨h1, h2⟩ := h d (List.mem_cons_self ..)
  obtain ⟨n, rfl⟩ := fits_int (fits_one h1)
  exact ⟨n :: L, rfl, fun x hx => by
   rcases List.mem_cons.1 hx with rfl | hx
   · exact h2.rng
   · exact hL x hx⟩
theorem root_of {ks : List Sk} {d : D} (hf : Vk.fits ⟨true, ks⟩ d = true) (hw : WT ty d) {n : Nat} (hs : ∀ j, j < 16 → ks[n + j]? = some (.int .u8)) : ∀ x, x ∈ rootN d n → 0 ≤ x ∧ x < 256 := by
 intro x hx
 unfold rootN at hx
 obtain ⟨j, hj, rfl⟩ := List.mem_map.1 hx
 have := rng_of hf hw (hs j (List.mem_range.1 hj))
 have e1 : IntKind.min .u8 = 0 := rfl
 have e2 : IntKind.max .u8 = 255 := rfl
 omega
theorem og_of {d : D} (hf : Vk.fits ⟨true, oKs⟩ d = true) (hw : WT ty d) : Og d := by
 have h2 := rng_of hf hw (j := 2) rfl
 have h3 := rng_of hf hw (j := 3) rfl
 have e1 : IntKind.min .u64 = 0 := rfl
 have e2 : IntKind.max .u64 = 18446744073709551615 := rfl
 exact ⟨hf, by omega, by omega⟩
theorem pg_of {d : D} (hf : Vk.fits ⟨true, [.int .u32, .sl 51]⟩ d = true) (hw : WT ty d) : Pg d ∧ 0 ≤ custP d := by
 have h0 := rng_of hf hw (j := 0) rfl
 have e1 : IntKind.min .u32 = 0 := rfl
 have e2 : IntKind.max .u32 = 4294967295 := rfl
 obtain ⟨h1, h2⟩ := els_of hf hw (j := 1) rfl (k := ⟨false, [.int .u32]⟩) rfl
 obtain ⟨L, hL, hL2⟩ := nums_of h2
 exact ⟨⟨hf, ⟨L, hL, fun x hx => by have := hL2 x hx; omega⟩, h1⟩, by unfold custP; omega⟩
theorem kg_of {d : D} (hf : Vk.fits ⟨true, kKs⟩ d = true) (hw : WT ty d) : Kg d :=
 ⟨hf, root_of hf hw (n := 1) fun j hj => by
  have : j = 0 ∨ j = 1 ∨ j = 2 ∨ j = 3 ∨ j = 4 ∨ j = 5 ∨ j = 6 ∨ j = 7 ∨ j = 8 ∨ j = 9 ∨ j = 10 ∨ j = 11 ∨ j = 12 ∨ j = 13 ∨ j = 14 ∨ j = 15 := by omega
  rcases this with rfl | rfl | rfl | rfl | rfl | rfl | rfl | rfl | rfl | rfl | rfl | rfl | rfl | rfl | rfl | rfl <;> rfl⟩
theorem fg_of {d : D} (hf : Vk.fits ⟨true, fKs⟩ d = true) (hw : WT ty d) : Fg d := by
 have h2 := rng_of hf hw (j := 2) rfl
 have h3 := rng_of hf hw (j := 3) rfl
 have h4 := rng_of hf hw (j := 4) rfl
 have h6 := rng_of hf hw (j := 6) rfl
 have e1 : IntKind.min .u64 = 0 := rfl
 have e2 : IntKind.max .u64 = 18446744073709551615 := rfl
 have e3 : IntKind.min .u32 = 0 := rfl
 have e4 : IntKind.max .u32 = 4294967295 := rfl
 have e5 : IntKind.min .u8 = 0 := rfl
 have e6 : IntKind.max .u8 = 255 := rfl
 exact ⟨hf, by omega, by omega, by omega, by omega⟩
theorem yg_of {d : D} (hf : Vk.fits ⟨true, yKs⟩ d = true) (hw : WT ty d) : Yg d := by
 have h2 := rng_of hf hw (j := 2) rfl
 have e3 : IntKind.min .u32 = 0 := rfl
 have e4 : IntKind.max .u32 = 4294967295 := rfl
 refine ⟨hf, by omega, root_of hf hw (n := 3) fun j hj => ?_⟩
 have : j = 0 ∨ j = 1 ∨ j = 2 ∨ j = 3 ∨ j = 4 ∨ j = 5 ∨ j = 6 ∨ j = 7 ∨ j = 8 ∨ j = 9 ∨ j = 10 ∨ j = 11 ∨ j = 12 ∨ j = 13 ∨ j = 14 ∨ j = 15 := by omega
 rcases this with rfl | rfl | rfl | rfl | rfl | rfl | rfl | rfl | rfl | rfl | rfl | rfl | rfl | rfl | rfl | rfl <;> rfl
theorem xg_of {x : D} (hf : Vk.fits ⟨true, xKs⟩ x = true) (hw : WT ty x) : Xg x := by
 obtain ⟨n0, h0⟩ := els_of hf hw (j := 0) rfl (k := ⟨true, fKs⟩) rfl
 obtain ⟨n1, h1⟩ := els_of hf hw (j := 1) rfl (k := ⟨true, yKs⟩) rfl
 obtain ⟨n2, h2⟩ := els_of hf hw (j := 2) rfl (k := ⟨false, [.int .u32]⟩) rfl
 obtain ⟨n3, h3⟩ := els_of hf hw (j := 3) rfl (k := ⟨true, oKs⟩) rfl
 obtain ⟨n4, h4⟩ := els_of hf hw (j := 4) rfl (k := ⟨true, [.int .u32, .sl 51]⟩) rfl
 obtain ⟨n5, h5⟩ := els_of hf hw (j := 5) rfl (k := ⟨true, kKs⟩) rfl
 exact ⟨hf, fun d hd => fg_of (h0 d hd).1 (h0 d hd).2, fun d hd => yg_of (h1 d hd).1 (h1 d hd).2, fun d hd => ⟨fits_int (fits_one (h2 d hd).1)⟩, n0, n1, n2,
  ⟨fun d hd => og_of (h3 d hd).1 (h3 d hd).2, fun d hd => pg_of (h4 d hd).1 (h4 d hd).2, fun d hd => kg_of (h5 d hd).1 (h5 d hd).2, n3, n4, n5⟩⟩
end Go.Proofs.YtapfhcnigmighaaGreat.Own
