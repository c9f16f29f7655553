/- The sort of the library, and the keys of a map. -/
import Derived.Test.YtapfhcnigmighaaGreatSoR
import Derived.Test.YtapfhcnigmighaaGreatSortQ
set_option linter.unusedVariables false
set_option linter.unusedSimpArgs false
namespace Go.Proofs.YtapfhcnigmighaaGreat.So
open Go Go.Proofs.YtapfhcnigmighaaGreat.GD Go.Sort
theorem less_ok (x y : Int) : Cl ty tab 170 [.int .u32 x, .int .u32 y] = some [.bool (ltInt x y)] := by
 refine s_cmp_Less 0 x y ?_
 unfold cmp_Less
 have h : ∀ z : Int, Cl ty tab 136 [.int .u32 z] = some [.bool false] := fun z => by
  refine s_cmp_isNaN_136 0 z ?_
  unfold cmp_isNaN_136
  simp
 rw [h]
 simp (disch := omega) only [gds, ltInt]
section
variable (nb : Bool) {N : Nat} (hN : N < 65536)
include hN
theorem insIn_ok {K : Nat} (k : Nat) (l : List D) (hl : l.length = N) (a i : Nat) (again : List D → Option (List D)) (vs : List D) (hv : ∃ w, vs = .int .i64 (i : Int) :: w) (hi : i < N) (d : Array Int) (hd : d.size = N) (j : Nat) (hj : j ≤ i) (hk : j < k) :
  iter k (slices_insertionSortOrdered.b1 (Cl ty tab) K l a again vs) [.int .i64 j, .ov 51 nb (ar (D.int .u32) d)] = again [.int .i64 ((i : Int) + 1), .ov 51 nb (ar (D.int .u32) (insInner ltInt a j d))] := by
 obtain ⟨w, rfl⟩ := hv
 refine iter_wf (fun s : Nat × Array Int => [.int .i64 s.1, .ov 51 nb (ar (D.int .u32) s.2)]) (fun s => again [.int .i64 ((i : Int) + 1), .ov 51 nb (ar (D.int .u32) (insInner ltInt a s.1 s.2))]) (fun s => s.1) (fun s => s.1 ≤ i ∧ s.2.size = N) (fun s hs ag ih => ?_) k (j, d) ⟨hj, hd⟩ hk
 obtain ⟨j, d⟩ := s
 obtain ⟨h1, h2⟩ := hs
 dsimp only at h1 h2 ih ⊢
 unfold slices_insertionSortOrdered.b1
 rcases Nat.lt_or_ge a j with c | c
 · have g1 := ar_get (D.int .u32) (d := d) (i := j) (by omega)
   have g2 := ar_get (D.int .u32) (d := d) (i := j - 1) (by omega)
   cases hl2 : ltInt d[j]! d[j - 1]!
   · rw [insInner_no ltInt hl2]
     simp (disch := omega) only [gds, hl, g1, g2, less_ok, hl2]
   · rw [insInner_yes ltInt c hl2]
     have ih' := ih (j - 1, swp d j (j - 1)) ⟨by dsimp only; omega, by dsimp only; rw [sz_swp]; exact h2⟩ (by dsimp only; omega)
     dsimp only at ih'
     rw [show ((j - 1 : Nat) : Int) = (j : Int) - 1 by omega] at ih'
     simp (disch := omega) only [gds, hl, g1, g2, less_ok, hl2, ar_swp]
     exact ih'
 · rw [insInner_stop ltInt c]
   simp (disch := omega) only [gds, hl]
theorem ins_ok (d : Array Int) (hd : d.size = N) (a b : Nat) (hab : a ≤ b) (hb : b ≤ N) : Cl ty tab 164 [.ov 51 nb (ar (D.int .u32) d), .int .i64 a, .int .i64 b] = some [.ov 51 nb (ar (D.int .u32) (insertionSort ltInt d a b))] := by
 refine s_slices_insertionSortOrdered (N + 2) nb _ _ _ ?_
 unfold slices_insertionSortOrdered insertionSort
 have := iter_wf (F := slices_insertionSortOrdered.b0 (Cl ty tab) (N + 2) (ar (D.int .u32) d) a b) (fun s : Nat × Array Int => [.int .i64 s.1, .ov 51 nb (ar (D.int .u32) s.2)]) (fun s => some [.ov 51 nb (ar (D.int .u32) (insOuter ltInt a b s.1 s.2))]) (fun s => b + 1 - s.1) (fun s => s.2.size = N ∧ a ≤ s.1 ∧ s.1 ≤ b + 1) (fun s hs ag ih => ?_) (N + 2) (a + 1, d) ⟨hd, by dsimp only; omega, by dsimp only; omega⟩ (by dsimp only; omega)
 · dsimp only at this
   rw [show ((a + 1 : Nat) : Int) = (a : Int) + 1 by omega] at this
   simp (disch := omega) only [gds]
   exact this
 · obtain ⟨i, d'⟩ := s
   obtain ⟨h1, h2, h3⟩ := hs
   dsimp only at h1 h2 h3 ih ⊢
   unfold slices_insertionSortOrdered.b0
   rcases Nat.lt_or_ge i b with c | c
   · rw [insOuter_go ltInt c]
     have ih' := ih (i + 1, insInner ltInt a i d') ⟨by dsimp only; rw [sz_insInner]; exact h1, by dsimp only; omega, by dsimp only; omega⟩ (by dsimp only; omega)
     dsimp only at ih'
     rw [show ((i + 1 : Nat) : Int) = (i : Int) + 1 by omega] at ih'
     have := insIn_ok nb hN (K := N + 2) (N + 2) (ar (D.int .u32) d) (by rw [ar_length]; exact hd) a i ag [.int .i64 (i : Int), .ov 51 nb (ar (D.int .u32) d')] ⟨_, rfl⟩ (by omega) d' h1 i (Nat.le_refl _) (by omega)
     simp (disch := omega) only [gds, this]
     exact ih'
   · rw [insOuter_end ltInt c]
     simp (disch := omega) only [gds]
set_option maxHeartbeats 4000000 in
theorem sift_ok (d : Array Int) (hd : d.size = N) (lo hi first : Nat) (h : first + hi ≤ N) (h2 : lo ≤ N) : Cl ty tab 175 [.ov 51 nb (ar (D.int .u32) d), .int .i64 lo, .int .i64 hi, .int .i64 first] = some [.ov 51 nb (ar (D.int .u32) (siftDown ltInt hi first lo d))] := by
 refine s_slices_siftDownOrdered (N + 2) nb _ _ _ _ ?_
 unfold slices_siftDownOrdered
 refine iter_wf (F := slices_siftDownOrdered.b0 (Cl ty tab) (N + 2) (ar (D.int .u32) d) hi first) (fun s : Nat × Array Int => [.int .i64 s.1, .ov 51 nb (ar (D.int .u32) s.2)]) (fun s => some [.ov 51 nb (ar (D.int .u32) (siftDown ltInt hi first s.1 s.2))]) (fun s => N + 1 - s.1) (fun s => s.2.size = N ∧ s.1 ≤ N) (fun s hs ag ih => ?_) (N + 2) (lo, d) ⟨hd, h2⟩ (by dsimp only; omega)
 obtain ⟨r, d'⟩ := s
 obtain ⟨h1, h3⟩ := hs
 dsimp only at h1 h3 ih ⊢
 have hl : (ar (D.int .u32) d).length = N := by rw [ar_length]; exact hd
 unfold slices_siftDownOrdered.b0 slices_siftDownOrdered.j0
 rcases Nat.lt_or_ge (2 * r + 1) hi with c | c
 · have hcp := child_pos ltInt (first := first) (d := d') c
   have g0 := ar_get (D.int .u32) (d := d') (i := first + r) (by omega)
   have gc := ar_get (D.int .u32) (d := d') (i := first + child ltInt hi first r d') (by omega)
   have e0 : ((first : Int) + r).toNat = first + r := by omega
   have e1 : ((first : Int) + (2 * (r : Int) + 1)).toNat = first + (2 * r + 1) := by omega
   have e2 : ((first : Int) + (2 * (r : Int) + 1) + 1).toNat = first + (2 * r + 1) + 1 := by omega
   have e4 : ((first : Int) + (2 * (r : Int) + 1 + 1)).toNat = first + (2 * r + 2) := by omega
   by_cases c2 : 2 * r + 1 + 1 < hi
   · have g1 := ar_get (D.int .u32) (d := d') (i := first + (2 * r + 1)) (by omega)
     have g2 := ar_get (D.int .u32) (d := d') (i := first + (2 * r + 1) + 1) (by omega)
     cases hc : ltInt d'[first + (2 * r + 1)]! d'[first + (2 * r + 1) + 1]!
     · have ech : child ltInt hi first r d' = 2 * r + 1 := by unfold child; rw [if_neg]; simp [hc]
       rw [ech] at hcp gc
       cases hlt : ltInt d'[first + r]! d'[first + (2 * r + 1)]!
       · rw [siftDown_no ltInt c (by rw [ech]; exact hlt)]
         simp (disch := omega) only [gds, hl, g0, gc, e0, e1, e2, e4, g1, g2, less_ok, hc, hlt]
       · rw [siftDown_yes ltInt c (by rw [ech]; exact hlt), ech]
         have ih' := ih (2 * r + 1, swp d' (first + r) (first + (2 * r + 1))) ⟨by dsimp only; rw [sz_swp]; exact h1, by dsimp only; omega⟩ (by dsimp only; omega)
         dsimp only at ih'
         rw [show ((2 * r + 1 : Nat) : Int) = 2 * (r : Int) + 1 by omega] at ih'
         clear ih
         simp (disch := omega) only [gds, hl, g0, gc, e0, e1, e2, e4, g1, g2, less_ok, hc, hlt, ar_swp]
         exact ih'
     · have ech : child ltInt hi first r d' = 2 * r + 2 := by unfold child; rw [if_pos ⟨c2, hc⟩]
       rw [ech] at hcp gc
       cases hlt : ltInt d'[first + r]! d'[first + (2 * r + 2)]!
       · rw [siftDown_no ltInt c (by rw [ech]; exact hlt)]
         simp (disch := omega) only [gds, hl, g0, gc, e0, e1, e2, e4, g1, g2, less_ok, hc, hlt]
       · rw [siftDown_yes ltInt c (by rw [ech]; exact hlt), ech]
         have ih' := ih (2 * r + 2, swp d' (first + r) (first + (2 * r + 2))) ⟨by dsimp only; rw [sz_swp]; exact h1, by dsimp only; omega⟩ (by dsimp only; omega)
         dsimp only at ih'
         rw [show ((2 * r + 2 : Nat) : Int) = 2 * (r : Int) + 1 + 1 by omega] at ih'
         clear ih
         simp (disch := omega) only [gds, hl, g0, gc, e0, e1, e2, e4, g1, g2, less_ok, hc, hlt, ar_swp]
         exact ih'
   · have ech : child ltInt hi first r d' = 2 * r + 1 := by unfold child; rw [if_neg (fun x => c2 x.1)]
     rw [ech] at hcp gc
     cases hlt : ltInt d'[first + r]! d'[first + (2 * r + 1)]!
     · rw [siftDown_no ltInt c (by rw [ech]; exact hlt)]
       simp (disch := omega) only [gds, hl, g0, gc, e0, e1, less_ok, hlt]
     · rw [siftDown_yes ltInt c (by rw [ech]; exact hlt), ech]
       have ih' := ih (2 * r + 1, swp d' (first + r) (first + (2 * r + 1))) ⟨by dsimp only; rw [sz_swp]; exact h1, by dsimp only; omega⟩ (by dsimp only; omega)
       dsimp only at ih'
       rw [show ((2 * r + 1 : Nat) : Int) = 2 * (r : Int) + 1 by omega] at ih'
       clear ih
       simp (disch := omega) only [gds, hl, g0, gc, e0, e1, less_ok, hlt, ar_swp]
       exact ih'
 · rw [siftDown_end ltInt c]
   simp (disch := omega) only [gds]
end
end Go.Proofs.YtapfhcnigmighaaGreat.So
