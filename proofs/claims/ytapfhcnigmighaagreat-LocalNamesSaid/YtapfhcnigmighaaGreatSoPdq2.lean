/- The sort of the library, and the keys of a map. -/
import Derived.Test.YtapfhcnigmighaaGreatSoPdq1
set_option linter.unusedVariables false
set_option linter.unusedSimpArgs false
namespace Go.Proofs.YtapfhcnigmighaaGreat.So
open Go Go.Proofs.YtapfhcnigmighaaGreat.GD Go.Sort
set_option maxRecDepth 20000 in
theorem bits_ok (n : Nat) (h : n < 65536) : Cl ty tab 162 [.int .u64 (n : Int)] = some [.int .i64 ((bitsLen n : Nat) : Int)] := by
 refine s_bits_Len 0 _ ?_
 unfold bits_Len
 have e : Cl ty tab 174 [.int .u64 (n : Int)] = some [.int .i64 ((bitsLen n : Nat) : Int)] := by
  refine s_bits_Len64 0 _ ?_
  unfold bits_Len64 bits_Len64.j2 bits_Len64.j1 bits_Len64.j0
  have w8 : ∀ m : Nat, m < 256 → IntKind.u8.wrap (m : Int) = (m : Int) := fun m hm => by simp [IntKind.wrap, IntKind.bits, IntKind.signed]; omega
  by_cases c : n < 256
  · have l8 : bitsLen n ≤ 8 := (bitsLen_le_iff n 8).2 (by omega)
    simp (disch := omega) only [gds, w8 n c, tabl n c, tabl_size, Int.zero_add]
  · have e1 : Int.fdiv (n : Int) (2 ^ 8) = ((n / 256 : Nat) : Int) := fdivN n 256
    have c2 : n / 256 < 256 := by omega
    have e2 : bitsLen n = 8 + bitsLen (n / 256) := by
     apply Nat.le_antisymm
     · refine (bitsLen_le_iff n _).2 ?_
       have := lt_two_pow_bitsLen (n / 256)
       rw [Nat.pow_add]; omega
     · refine Nat.le_of_not_lt fun hlt => ?_
       have h8 : 8 ≤ bitsLen n := by
        refine Nat.le_of_not_lt fun hx => ?_
        have := (bitsLen_le_iff n 7).1 (by omega)
        omega
       have := (bitsLen_le_iff (n / 256) (bitsLen n - 8)).2 (by
        have := lt_two_pow_bitsLen n
        rw [show bitsLen n = 8 + (bitsLen n - 8) by omega, Nat.pow_add] at this
        omega)
       omega
    have l8 : bitsLen (n / 256) ≤ 8 := (bitsLen_le_iff _ 8).2 (by omega)
    have e3 : ((bitsLen n : Nat) : Int) = 8 + ((bitsLen (n / 256) : Nat) : Int) := by omega
    rw [e3]
    simp (disch := omega) only [gds, e1, w8 _ c2, tabl _ c2, tabl_size, Int.zero_add]
 rw [e]
 simp (disch := omega) only [gds]
theorem pow2_ok (n : Nat) (h : n < 65536) : Cl ty tab 176 [.int .i64 (n : Int)] = some [.int .u64 ((1 <<< bitsLen n : Nat) : Int)] := by
 refine s_slices_nextPowerOfTwo 0 _ ?_
 unfold slices_nextPowerOfTwo
 have l16 : bitsLen n ≤ 16 := (bitsLen_le_iff n 16).2 (by omega)
 have hm : min (bitsLen n) IntKind.u64.bits = bitsLen n := Nat.min_eq_left (by show _ ≤ 64; omega)
 have hp : 2 ^ bitsLen n ≤ 2 ^ 16 := Nat.pow_le_pow_right (by omega) l16
 have e : (1 : Int) * (2 : Int) ^ bitsLen n = ((1 <<< bitsLen n : Nat) : Int) := by
  rw [Nat.shiftLeft_eq]; simp
 have hb : 1 <<< bitsLen n < 18446744073709551616 := by rw [Nat.shiftLeft_eq]; omega
 have hw : IntKind.u64.wrap ((1 <<< bitsLen n : Nat) : Int) = ((1 <<< bitsLen n : Nat) : Int) := by
  generalize 1 <<< bitsLen n = z at *
  exact wrapU (by omega) (by omega)
 simp (disch := omega) only [gds, wrapU, bits_ok n h, hm, e, hw]
theorem xor_ok (r : UInt64) : Cl ty tab 177 [.pv [.int .u64 ((r.toNat : Nat) : Int)]] = some [.int .u64 (((xorNext r).toNat : Nat) : Int), .pv [.int .u64 (((xorNext r).toNat : Nat) : Int)]] := by
 refine s_slices_xorshift_Next 0 _ ?_
 unfold slices_xorshift_Next
 rw [xorNext_toNat]
 unfold xorNextN
 have hr : r.toNat < 18446744073709551616 := r.toNat_lt
 generalize r.toNat = x at *
 have a1 : IntKind.u64.wrap ((x : Int) * 2 ^ 13) = ((x * 8192 % 18446744073709551616 : Nat) : Int) := by rw [wrapUm]; omega
 have h1 : x ^^^ (x * 8192 % 18446744073709551616) < 18446744073709551616 := xorlt (by omega) (by omega)
 simp only [a1, xorU hr (show x * 8192 % 18446744073709551616 < 18446744073709551616 by omega)]
 generalize x ^^^ (x * 8192 % 18446744073709551616) = y at *
 have a2 : Int.fdiv (y : Int) (2 ^ 7) = ((y / 128 : Nat) : Int) := fdivN y 128
 have h2 : y ^^^ (y / 128) < 18446744073709551616 := xorlt (by omega) (by omega)
 simp only [a2, xorU h1 (show y / 128 < 18446744073709551616 by omega)]
 generalize y ^^^ (y / 128) = z at *
 have a3 : IntKind.u64.wrap ((z : Int) * 2 ^ 17) = ((z * 131072 % 18446744073709551616 : Nat) : Int) := by rw [wrapUm]; omega
 simp only [a3, xorU h2 (show z * 131072 % 18446744073709551616 < 18446744073709551616 by omega)]
section
variable (nb : Bool) {N : Nat} (hN : N < 65536)
include hN
theorem heapPop_ok {K : Nat} (k : Nat) (l : List D) (hl : l.length = N) (first n : Nat) (hn : first + n ≤ N) (m : Nat) (hm : m ≤ n) (d : Array Int) (hd : d.size = N) (hk : m < k) :
  iter k (slices_heapSortOrdered.b1 (Cl ty tab) K l first) [.int .i64 ((m : Int) - 1), .ov 51 nb (ar (D.int .u32) d)] = some [.ov 51 nb (ar (D.int .u32) (heapPop ltInt first m d))] := by
 refine iter_wf (R := List D) (fun s : Nat × Array Int => [.int .i64 ((s.1 : Int) - 1), .ov 51 nb (ar (D.int .u32) s.2)]) (fun s => some [.ov 51 nb (ar (D.int .u32) (heapPop ltInt first s.1 s.2))]) (fun s => s.1) (fun s => s.1 ≤ n ∧ s.2.size = N) (fun s hs ag ih => ?_) k (m, d) ⟨hm, hd⟩ hk
 obtain ⟨m, d⟩ := s
 obtain ⟨h1, h2⟩ := hs
 dsimp only at h1 h2 ih ⊢
 unfold slices_heapSortOrdered.b1
 cases m with
 | zero =>
  simp (disch := omega) only [gds]
  rfl
 | succ m =>
  rw [show (((m + 1 : Nat) : Int) - 1) = (m : Int) by omega, heapPop_succ]
  have g0 := ar_get (D.int .u32) (d := d) (i := first) (by omega)
  have g1 := ar_get (D.int .u32) (d := d) (i := first + m) (by omega)
  have e1 : ((first : Int) + m).toNat = first + m := by omega
  have sz : (swp d first (first + m)).size = N := by rw [sz_swp]; exact h2
  have hs := sift_ok nb hN (swp d first (first + m)) sz 0 m first (by omega) (by omega)
  rw [show ((0 : Nat) : Int) = 0 from rfl] at hs
  have ih' := ih (m, siftDown ltInt m first 0 (swp d first (first + m))) ⟨by dsimp only; omega, by dsimp only; rw [sz_siftDown ltInt _ _ _ _ _ (Nat.le_refl _)]; exact sz⟩ (by dsimp only; omega)
  dsimp only at ih'
  clear ih
  simp (disch := omega) only [gds, hl, g0, g1, e1, ar_swp, hs]
  exact ih'
theorem heap_ok (d : Array Int) (hd : d.size = N) (a b : Nat) (hab : a < b) (hb : b ≤ N) : Cl ty tab 165 [.ov 51 nb (ar (D.int .u32) d), .int .i64 a, .int .i64 b] = some [.ov 51 nb (ar (D.int .u32) (heapSort ltInt d a b))] := by
 refine s_slices_heapSortOrdered (N + 2) nb _ _ _ ?_
 unfold slices_heapSortOrdered heapSort
 have hl : (ar (D.int .u32) d).length = N := by rw [ar_length]; exact hd
 have et : ((b : Int) - a - 1).tdiv 2 = (((b - a - 1) / 2 : Nat) : Int) := by rw [← tdivN]; congr 1; omega
 have := iter_wf (F := slices_heapSortOrdered.b0 (Cl ty tab) (N + 2) (ar (D.int .u32) d) a b) (fun s : Nat × Array Int => [.int .i64 ((s.1 : Int) - 1), .ov 51 nb (ar (D.int .u32) s.2)]) (fun s => some [.ov 51 nb (ar (D.int .u32) (heapPop ltInt a (b - a) (heapBuild ltInt (b - a) a s.1 s.2)))]) (fun s => s.1) (fun s => s.1 ≤ N ∧ s.2.size = N) (fun s hs ag ih => ?_) (N + 2) ((b - a - 1) / 2 + 1, d) ⟨by dsimp only; omega, hd⟩ (by dsimp only; omega)
 · dsimp only at this
   rw [show ((((b - a - 1) / 2 + 1 : Nat) : Int) - 1) = (((b - a - 1) / 2 : Nat) : Int) by omega] at this
   simp (disch := omega) only [gds, et]
   exact this
 · obtain ⟨m, d'⟩ := s
   obtain ⟨h1, h2⟩ := hs
   dsimp only at h1 h2 ih ⊢
   unfold slices_heapSortOrdered.b0
   cases m with
   | zero =>
    have hp := heapPop_ok nb hN (K := N + 2) (N + 2) (ar (D.int .u32) d) hl a (b - a) (by omega) (b - a) (Nat.le_refl _) d' h2 (by omega)
    rw [show ((b - a : Nat) : Int) = (b : Int) - a by omega] at hp
    simp (disch := omega) only [gds, hp]
    rfl
   | succ m =>
    rw [show (((m + 1 : Nat) : Int) - 1) = (m : Int) by omega, heapBuild_succ]
    have hs := sift_ok nb hN d' h2 m (b - a) a (by omega) (by omega)
    rw [show ((b - a : Nat) : Int) = (b : Int) - a by omega] at hs
    have ih' := ih (m, siftDown ltInt (b - a) a m d') ⟨by dsimp only; omega, by dsimp only; rw [sz_siftDown ltInt _ _ _ _ _ (Nat.le_refl _)]; exact h2⟩ (by dsimp only; omega)
    dsimp only at ih'
    clear ih
    simp (disch := omega) only [gds, hs]
    exact ih'
theorem rev_ok (d : Array Int) (hd : d.size = N) (a b : Nat) (hab : a < b) (hb : b ≤ N) : Cl ty tab 168 [.ov 51 nb (ar (D.int .u32) d), .int .i64 a, .int .i64 b] = some [.ov 51 nb (ar (D.int .u32) (reverseRange d a b))] := by
 refine s_slices_reverseRangeOrdered (N + 2) nb _ _ _ ?_
 unfold slices_reverseRangeOrdered reverseRange
 have hl : (ar (D.int .u32) d).length = N := by rw [ar_length]; exact hd
 have := iter_wf (F := slices_reverseRangeOrdered.b0 (Cl ty tab) (N + 2) (ar (D.int .u32) d)) (fun s : Nat × Nat × Array Int => [.int .i64 s.1, .int .i64 s.2.1, .ov 51 nb (ar (D.int .u32) s.2.2)]) (fun s => some [.ov 51 nb (ar (D.int .u32) (reverseLoop s.1 s.2.1 s.2.2))]) (fun s => s.2.1) (fun s => s.2.2.size = N ∧ s.2.1 < N) (fun s hs ag ih => ?_) (N + 2) (a, b - 1, d) ⟨hd, by dsimp only; omega⟩ (by dsimp only; omega)
 · dsimp only at this
   rw [show ((b - 1 : Nat) : Int) = (b : Int) - 1 by omega] at this
   simp (disch := omega) only [gds]
   exact this
 · obtain ⟨i, j, d'⟩ := s
   obtain ⟨h1, h2⟩ := hs
   dsimp only at h1 h2 ih ⊢
   unfold slices_reverseRangeOrdered.b0
   rcases Nat.lt_or_ge i j with c | c
   · rw [reverseLoop_go c]
     have g0 := ar_get (D.int .u32) (d := d') (i := i) (by omega)
     have g1 := ar_get (D.int .u32) (d := d') (i := j) (by omega)
     have ih' := ih (i + 1, j - 1, swp d' i j) ⟨by dsimp only; rw [sz_swp]; exact h1, by dsimp only; omega⟩ (by dsimp only; omega)
     dsimp only at ih'
     rw [show ((j - 1 : Nat) : Int) = (j : Int) - 1 by omega, show ((i + 1 : Nat) : Int) = (i : Int) + 1 by omega] at ih'
     clear ih
     simp (disch := omega) only [gds, hl, g0, g1, ar_swp]
     exact ih'
   · rw [reverseLoop_end c]
     simp (disch := omega) only [gds]
theorem ord2_ok (d : Array Int) (hd : d.size = N) (a b s : Nat) (ha : a < N) (hb : b < N) (hs : s < 1000) : Cl ty tab 180 [.ov 51 nb (ar (D.int .u32) d), .int .i64 a, .int .i64 b, .pv [.int .i64 s]] =
  some [.int .i64 ((order2 ltInt d a b s).1 : Nat), .int .i64 ((order2 ltInt d a b s).2.1 : Nat), .ov 51 nb (ar (D.int .u32) d), .pv [.int .i64 ((order2 ltInt d a b s).2.2 : Nat)]] := by
 have _ := hN
 refine s_slices_order2Ordered 0 nb _ _ _ _ ?_
 unfold slices_order2Ordered order2
 have hl : (ar (D.int .u32) d).length = N := by rw [ar_length]; exact hd
 have g0 := ar_get (D.int .u32) (d := d) (i := a) (by omega)
 have g1 := ar_get (D.int .u32) (d := d) (i := b) (by omega)
 cases hc : ltInt d[b]! d[a]!
 · simp (disch := omega) only [gds, hl, g0, g1, less_ok, hc]
 · simp (disch := omega) only [gds, hl, g0, g1, less_ok, hc]
   rfl
theorem med_ok (d : Array Int) (hd : d.size = N) (a b c s : Nat) (ha : a < N) (hb : b < N) (hc : c < N) (hs : s < 900) : Cl ty tab 179 [.ov 51 nb (ar (D.int .u32) d), .int .i64 a, .int .i64 b, .int .i64 c, .pv [.int .i64 s]] =
  some [.int .i64 ((median ltInt d a b c s).1 : Nat), .ov 51 nb (ar (D.int .u32) d), .pv [.int .i64 ((median ltInt d a b c s).2 : Nat)]] := by
 refine s_slices_medianOrdered 0 nb _ _ _ _ _ ?_
 unfold slices_medianOrdered median
 dsimp only
 have o1 := ord2_ok nb hN d hd a b s ha hb (by omega)
 have m1 := order2_mem ltInt d a b s
 have c1 := order2_count (lt := ltInt) d a b s
 generalize order2 ltInt d a b s = r1 at *
 have o2 := ord2_ok nb hN d hd r1.2.1 c r1.2.2 (by omega) hc (by omega)
 have m2 := order2_mem ltInt d r1.2.1 c r1.2.2
 have c2 := order2_count (lt := ltInt) d r1.2.1 c r1.2.2
 generalize order2 ltInt d r1.2.1 c r1.2.2 = r2 at *
 have o3 := ord2_ok nb hN d hd r1.1 r2.1 r2.2.2 (by omega) (by omega) (by omega)
 clear m1 c1 m2 c2
 simp (disch := omega) only [gds, o1, o2, o3]
theorem medA_ok (d : Array Int) (hd : d.size = N) (a s : Nat) (h1 : 1 ≤ a) (ha : a + 1 < N) (hs : s < 900) : Cl ty tab 178 [.ov 51 nb (ar (D.int .u32) d), .int .i64 a, .pv [.int .i64 s]] =
  some [.int .i64 ((medianAdjacent ltInt d a s).1 : Nat), .ov 51 nb (ar (D.int .u32) d), .pv [.int .i64 ((medianAdjacent ltInt d a s).2 : Nat)]] := by
 refine s_slices_medianAdjacentOrdered 0 nb _ _ _ ?_
 unfold slices_medianAdjacentOrdered medianAdjacent
 have o1 := med_ok nb hN d hd (a - 1) a (a + 1) s (by omega) (by omega) (by omega) hs
 rw [show ((a - 1 : Nat) : Int) = (a : Int) - 1 by omega, show ((a + 1 : Nat) : Int) = (a : Int) + 1 by omega] at o1
 simp (disch := omega) only [gds, o1]
end
def hintI : Hint → Int | .unknown => 0 | .increasing => 1 | .decreasing => 2
section
variable (nb : Bool) {N : Nat} (hN : N < 65536)
include hN
set_option maxHeartbeats 1000000 in
theorem piv_ok (d : Array Int) (hd : d.size = N) (a b : Nat) (hab : a < b) (hb : b ≤ N) : Cl ty tab 167 [.ov 51 nb (ar (D.int .u32) d), .int .i64 a, .int .i64 b] =
  some [.int .i64 ((choosePivot ltInt d a b).1 : Nat), .int .i64 (hintI (choosePivot ltInt d a b).2), .ov 51 nb (ar (D.int .u32) d)] := by
 refine s_slices_choosePivotOrdered 0 nb _ _ _ ?_
 unfold slices_choosePivotOrdered choosePivot
 have et : ((b : Int) - a).tdiv 4 = (((b - a) / 4 : Nat) : Int) := by rw [← tdivN]; congr 1; omega
 obtain ⟨q, hq⟩ : ∃ q, q = (b - a) / 4 := ⟨_, rfl⟩
 dsimp only
 rw [← hq] at et ⊢
 have e1 : (a : Int) + (q : Int) * 1 = ((a + q * 1 : Nat) : Int) := by omega
 have e2 : (a : Int) + (q : Int) * 2 = ((a + q * 2 : Nat) : Int) := by omega
 have e3 : (a : Int) + (q : Int) * 3 = ((a + q * 3 : Nat) : Int) := by omega
 have tail : ∀ (x c : Nat) (l : List D), (bif decide ((c : Int) = 0) then some [D.int .i64 x, D.int .i64 1, D.ov 51 nb l] else bif decide ((c : Int) = 12) then some [D.int .i64 x, D.int .i64 2, D.ov 51 nb l] else some [D.int .i64 x, D.int .i64 0, D.ov 51 nb l]) = some [D.int .i64 x, D.int .i64 (hintI (if c = 0 then Hint.increasing else if c = 12 then Hint.decreasing else Hint.unknown)), D.ov 51 nb l] := fun x c l => by
  by_cases h0 : c = 0
  · subst h0; rfl
  · by_cases h1 : c = 12
    · subst h1; rfl
    · rw [if_neg h0, if_neg h1, cn (by omega), cn (by omega)]; rfl
 by_cases h8 : 8 ≤ b - a
 · rw [if_pos h8]
   by_cases h50 : 50 ≤ b - a
   · rw [if_pos h50]
     have o1 := medA_ok nb hN d hd (a + q * 1) 0 (by omega) (by omega) (by omega)
     have m1 := medianAdjacent_mem ltInt d (a + q * 1) 0
     have c1 := medianAdjacent_count (lt := ltInt) d (a + q * 1) 0
     generalize medianAdjacent ltInt d (a + q * 1) 0 = r1 at *
     have o2 := medA_ok nb hN d hd (a + q * 2) r1.2 (by omega) (by omega) (by omega)
     have m2 := medianAdjacent_mem ltInt d (a + q * 2) r1.2
     have c2 := medianAdjacent_count (lt := ltInt) d (a + q * 2) r1.2
     generalize medianAdjacent ltInt d (a + q * 2) r1.2 = r2 at *
     have o3 := medA_ok nb hN d hd (a + q * 3) r2.2 (by omega) (by omega) (by omega)
     have m3 := medianAdjacent_mem ltInt d (a + q * 3) r2.2
     have c3 := medianAdjacent_count (lt := ltInt) d (a + q * 3) r2.2
     generalize medianAdjacent ltInt d (a + q * 3) r2.2 = r3 at *
     have o4 := med_ok nb hN d hd r1.1 r2.1 r3.1 r3.2 (by omega) (by omega) (by omega) (by omega)
     generalize median ltInt d r1.1 r2.1 r3.1 r3.2 = r4 at *
     clear m1 c1 m2 c2 m3 c3
     rw [show ((0 : Nat) : Int) = 0 from rfl] at o1
     simp (disch := omega) only [gds, et, e1, e2, e3, o1, o2, o3, o4, tail]
   · rw [if_neg h50]
     have o4 := med_ok nb hN d hd (a + q * 1) (a + q * 2) (a + q * 3) 0 (by omega) (by omega) (by omega) (by omega)
     generalize median ltInt d (a + q * 1) (a + q * 2) (a + q * 3) 0 = r4 at *
     rw [show ((0 : Nat) : Int) = 0 from rfl] at o4
     simp (disch := omega) only [gds, et, e1, e2, e3, o4, tail]
 · rw [if_neg h8]
   simp (disch := omega) only [gds, et, e1, e2, e3]
   rfl
end
end Go.Proofs.YtapfhcnigmighaaGreat.So
