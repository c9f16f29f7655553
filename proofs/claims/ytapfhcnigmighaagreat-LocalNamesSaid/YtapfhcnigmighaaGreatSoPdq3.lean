/- The sort of the library, and the keys of a map. -/
import Derived.Test.YtapfhcnigmighaaGreatSoPdq2
set_option linter.unusedVariables false
set_option linter.unusedSimpArgs false
set_option linter.unusedSectionVars false
namespace Go.Proofs.YtapfhcnigmighaaGreat.So
open Go Go.Proofs.YtapfhcnigmighaaGreat.GD Go.Sort
set_option maxHeartbeats 1000000
theorem b3_1_eq : slices_partialInsertionSortOrdered.b3_1 = slices_partialInsertionSortOrdered.b3 := rfl
section
variable (nb : Bool) {N : Nat} (hN : N < 65536)
include hN
theorem brkStep_ok {K : Nat} (l : List D) (hl : l.length = N) (a b : Nat) (hab : a + 8 ≤ b) (hb : b ≤ N) (idx : Nat) (h1 : idx ≤ a + (b - a) / 4 * 2 + 1) (st : UInt64 × Array Int) (hd : st.2.size = N) (again : List D → Option (List D)) :
  slices_breakPatternsOrdered.b0 (Cl ty tab) K l a b [.int .u64 ((1 <<< bitsLen (b - a) : Nat) : Int)] [.int .i64 idx, .ov 51 nb (ar (D.int .u32) st.2), .pv [.int .u64 (st.1.toNat : Nat)]] again =
   again [.int .i64 ((idx + 1 : Nat) : Int), .ov 51 nb (ar (D.int .u32) (breakStep a (b - a) (1 <<< bitsLen (b - a)) st idx).2), .pv [.int .u64 ((breakStep a (b - a) (1 <<< bitsLen (b - a)) st idx).1.toNat : Nat)]] := by
 unfold slices_breakPatternsOrdered.b0 slices_breakPatternsOrdered.j0
 have et : ((b : Int) - a).tdiv 4 = (((b - a) / 4 : Nat) : Int) := by rw [← tdivN]; congr 1; omega
 have hm1 : 1 ≤ 1 <<< bitsLen (b - a) := by rw [Nat.shiftLeft_eq]; have := Nat.two_pow_pos (bitsLen (b - a)); omega
 have hm2 : 1 <<< bitsLen (b - a) ≤ 2 * (b - a) := by rw [Nat.shiftLeft_eq, Nat.one_mul]; exact two_pow_bitsLen_le (by omega)
 unfold breakStep
 dsimp only
 have hr : (xorNext st.1).toNat < 18446744073709551616 := (xorNext st.1).toNat_lt
 have ho : (xorNext st.1).toNat &&& (1 <<< bitsLen (b - a) - 1) ≤ 1 <<< bitsLen (b - a) - 1 := Nat.and_le_right
 have hx := xor_ok st.1
 generalize 1 <<< bitsLen (b - a) = m at *
 have hw : IntKind.u64.wrap ((m : Int) - 1) = ((m - 1 : Nat) : Int) := by rw [wrapU (by omega) (by omega)]; omega
 have ha := andU hr (show m - 1 < 18446744073709551616 by omega)
 generalize (xorNext st.1).toNat = r at *
 generalize r &&& (m - 1) = o at *
 have gi := ar_get (D.int .u32) (d := st.2) (i := idx) (by omega)
 rw [show ((idx + 1 : Nat) : Int) = (idx : Int) + 1 by omega]
 by_cases c : b - a ≤ o
 · rw [if_pos c]
   have e1 : ((a : Int) + ((o : Int) - ((b : Int) - a))).toNat = a + (o - (b - a)) := by omega
   have gj := ar_get (D.int .u32) (d := st.2) (i := a + (o - (b - a))) (by omega)
   simp (disch := omega) only [gds, hl, et, hx, hw, ha, gi, gj, e1, ar_swp]
 · rw [if_neg c]
   have e1 : ((a : Int) + (o : Int)).toNat = a + o := by omega
   have gj := ar_get (D.int .u32) (d := st.2) (i := a + o) (by omega)
   simp (disch := omega) only [gds, hl, et, hx, hw, ha, gi, gj, e1, ar_swp]
theorem brk_ok (d : Array Int) (hd : d.size = N) (a b : Nat) (hab : a < b) (hb : b ≤ N) : Cl ty tab 166 [.ov 51 nb (ar (D.int .u32) d), .int .i64 a, .int .i64 b] = some [.ov 51 nb (ar (D.int .u32) (breakPatterns d a b))] := by
 refine s_slices_breakPatternsOrdered 4 nb _ _ _ ?_
 unfold slices_breakPatternsOrdered breakPatterns
 have hl : (ar (D.int .u32) d).length = N := by rw [ar_length]; exact hd
 have et : ((b : Int) - a).tdiv 4 = (((b - a) / 4 : Nat) : Int) := by rw [← tdivN]; congr 1; omega
 dsimp only
 by_cases c : 8 ≤ b - a
 · rw [if_pos c]
   have hp := pow2_ok (b - a) (by omega)
   rw [show ((b - a : Nat) : Int) = (b : Int) - a by omega] at hp
   have hw : IntKind.u64.wrap ((b : Int) - a) = ((UInt64.ofNat (b - a)).toNat : Nat) := by
    rw [wrapU (by omega) (by omega), UInt64.toNat_ofNat', Nat.mod_eq_of_lt (by omega)]; omega
   have ei : (a : Int) + (((b - a) / 4 : Nat) : Int) * 2 - 1 = ((a + (b - a) / 4 * 2 - 1 : Nat) : Int) := by omega
   obtain ⟨i0, hi0⟩ : ∃ i0, i0 = a + (b - a) / 4 * 2 - 1 := ⟨_, rfl⟩
   have sz : ∀ (st : UInt64 × Array Int) (i : Nat), (breakStep a (b - a) (1 <<< bitsLen (b - a)) st i).2.size = st.2.size := fun st i => by unfold breakStep; rw [sz_swp]
   have s1 := fun ag => brkStep_ok nb hN (K := 4) (ar (D.int .u32) d) hl a b (by omega) hb i0 (by omega) (UInt64.ofNat (b - a), d) hd ag
   have s2 := fun ag => brkStep_ok nb hN (K := 4) (ar (D.int .u32) d) hl a b (by omega) hb (i0 + 1) (by omega) (breakStep a (b - a) (1 <<< bitsLen (b - a)) (UInt64.ofNat (b - a), d) i0) (by rw [sz]; exact hd) ag
   have s3 := fun ag => brkStep_ok nb hN (K := 4) (ar (D.int .u32) d) hl a b (by omega) hb (i0 + 1 + 1) (by omega) (breakStep a (b - a) (1 <<< bitsLen (b - a)) (breakStep a (b - a) (1 <<< bitsLen (b - a)) (UInt64.ofNat (b - a), d) i0) (i0 + 1)) (by rw [sz, sz]; exact hd) ag
   have s4 : ∀ (st : UInt64 × Array Int) (ag : List D → Option (List D)), slices_breakPatternsOrdered.b0 (Cl ty tab) 4 (ar (D.int .u32) d) a b [.int .u64 ((1 <<< bitsLen (b - a) : Nat) : Int)] [.int .i64 ((i0 + 1 + 1 + 1 : Nat) : Int), .ov 51 nb (ar (D.int .u32) st.2), .pv [.int .u64 (st.1.toNat : Nat)]] ag = some [.ov 51 nb (ar (D.int .u32) st.2)] := fun st ag => by
    unfold slices_breakPatternsOrdered.b0 slices_breakPatternsOrdered.j0
    simp (disch := omega) only [gds, et]
   simp (disch := omega) only [gds, et, ei, hp, hw]
   rw [← hi0]
   simp only [iter]
   rw [s1, s2, s3, s4]
 · rw [if_neg c]
   simp (disch := omega) only [gds]
theorem shUp_ok {K : Nat} (k : Nat) (l : List D) (hl : l.length = N) (b : Nat) (hb : b ≤ N) (i : Int) (s : Nat) (hs : s < 100) (ag2 : List D → Option (List D)) (vs1 vs3 : List D) (hv1 : ∃ x y, vs1 = x :: .int .i64 (s : Int) :: y) (hv3 : ∃ y, vs3 = .int .i64 i :: y) (j : Nat) (hj : 1 ≤ j) (hjb : j ≤ b) (d : Array Int) (hd : d.size = N) (hk : b < k + j) :
  iter k (slices_partialInsertionSortOrdered.b3 (Cl ty tab) K l b ag2 vs1 vs3) [.int .i64 j, .ov 51 nb (ar (D.int .u32) d)] = ag2 [.int .i64 i, .int .i64 ((s + 1 : Nat) : Int), .ov 51 nb (ar (D.int .u32) (shiftUp ltInt b j d))] := by
 obtain ⟨x, y, rfl⟩ := hv1
 obtain ⟨z, rfl⟩ := hv3
 refine iter_wf (R := List D) (fun s : Nat × Array Int => [.int .i64 s.1, .ov 51 nb (ar (D.int .u32) s.2)]) (fun t => ag2 [.int .i64 i, .int .i64 ((s + 1 : Nat) : Int), .ov 51 nb (ar (D.int .u32) (shiftUp ltInt b t.1 t.2))]) (fun s => b - s.1) (fun s => 1 ≤ s.1 ∧ s.1 ≤ b ∧ s.2.size = N) (fun t ht ag ih => ?_) k (j, d) ⟨hj, hjb, hd⟩ (by dsimp only; omega)
 obtain ⟨j, d⟩ := t
 obtain ⟨h1, h2, h3⟩ := ht
 dsimp only at h1 h2 h3 ih ⊢
 unfold slices_partialInsertionSortOrdered.b3
 rw [show ((s + 1 : Nat) : Int) = (s : Int) + 1 by omega]
 rcases Nat.lt_or_ge j b with c | c
 · have g1 := ar_get (D.int .u32) (d := d) (i := j) (by omega)
   have g2 := ar_get (D.int .u32) (d := d) (i := j - 1) (by omega)
   cases hl2 : ltInt d[j]! d[j - 1]!
   · rw [shiftUp_no ltInt hl2]
     simp (disch := omega) only [gds, hl, g1, g2, less_ok, hl2]
   · rw [shiftUp_yes ltInt c hl2]
     have ih' := ih (j + 1, swp d j (j - 1)) ⟨by dsimp only; omega, by dsimp only; omega, by dsimp only; rw [sz_swp]; exact h3⟩ (by dsimp only; omega)
     dsimp only at ih'
     rw [show ((j + 1 : Nat) : Int) = (j : Int) + 1 by omega, show ((s + 1 : Nat) : Int) = (s : Int) + 1 by omega] at ih'
     clear ih
     simp (disch := omega) only [gds, hl, g1, g2, less_ok, hl2, ar_swp]
     exact ih'
 · rw [shiftUp_end ltInt c]
   simp (disch := omega) only [gds, hl]
theorem shDn_ok {K : Nat} (k : Nat) (l : List D) (hl : l.length = N) (b : Nat) (hb : b ≤ N) (hK : N < K) (i : Nat) (hi : i < b) (s : Nat) (hs : s < 100) (ag2 : List D → Option (List D)) (vs1 vs3 : List D) (hv1 : ∃ x y, vs1 = x :: .int .i64 (s : Int) :: y) (hv3 : ∃ y, vs3 = .int .i64 (i : Int) :: y) (j : Nat) (hj : j < N) (d : Array Int) (hd : d.size = N) (hk : j < k) :
  iter k (slices_partialInsertionSortOrdered.b2 (Cl ty tab) K l b ag2 vs1 vs3) [.int .i64 j, .ov 51 nb (ar (D.int .u32) d)] = ag2 [.int .i64 i, .int .i64 ((s + 1 : Nat) : Int), .ov 51 nb (ar (D.int .u32) (fixUp ltInt b i (shiftDown ltInt j d)))] := by
 obtain ⟨x, y, rfl⟩ := hv1
 obtain ⟨z, rfl⟩ := hv3
 refine iter_wf (R := List D) (fun s : Nat × Array Int => [.int .i64 s.1, .ov 51 nb (ar (D.int .u32) s.2)]) (fun t => ag2 [.int .i64 i, .int .i64 ((s + 1 : Nat) : Int), .ov 51 nb (ar (D.int .u32) (fixUp ltInt b i (shiftDown ltInt t.1 t.2)))]) (fun s => s.1) (fun s => s.1 < N ∧ s.2.size = N) (fun t ht ag ih => ?_) k (j, d) ⟨hj, hd⟩ hk
 obtain ⟨j, d⟩ := t
 obtain ⟨h1, h3⟩ := ht
 dsimp only at h1 h3 ih ⊢
 have stop : (bif decide ((2 : Int) ≤ IntKind.i64.wrap ((b : Int) - i)) then iter K (slices_partialInsertionSortOrdered.b3 (Cl ty tab) K l b ag2 (x :: .int .i64 (s : Int) :: y) (.int .i64 (i : Int) :: z)) [.int .i64 (IntKind.i64.wrap ((i : Int) + 1)), .ov 51 nb (ar (D.int .u32) d)] else ag2 [.int .i64 i, .int .i64 (IntKind.i64.wrap ((s : Int) + 1)), .ov 51 nb (ar (D.int .u32) d)]) = ag2 [.int .i64 i, .int .i64 ((s + 1 : Nat) : Int), .ov 51 nb (ar (D.int .u32) (fixUp ltInt b i d))] := by
  unfold fixUp
  by_cases c : 2 ≤ b - i
  · have hu := shUp_ok nb hN (K := K) K l hl b hb i s hs ag2 (x :: .int .i64 (s : Int) :: y) (.int .i64 (i : Int) :: z) ⟨_, _, rfl⟩ ⟨_, rfl⟩ (i + 1) (by omega) (by omega) d h3 (by omega)
    rw [show ((i + 1 : Nat) : Int) = (i : Int) + 1 by omega] at hu
    rw [if_pos c]
    simp (disch := omega) only [gds, hu]
  · rw [if_neg c, show ((s + 1 : Nat) : Int) = (s : Int) + 1 by omega]
    simp (disch := omega) only [gds]
 unfold slices_partialInsertionSortOrdered.b2 slices_partialInsertionSortOrdered.j0
 rcases Nat.lt_or_ge 0 j with c | c
 · have g1 := ar_get (D.int .u32) (d := d) (i := j) (by omega)
   have g2 := ar_get (D.int .u32) (d := d) (i := j - 1) (by omega)
   cases hl2 : ltInt d[j]! d[j - 1]!
   · rw [shiftDown_no ltInt hl2, ← stop]
     simp (disch := omega) only [gds, hl, g1, g2, less_ok, hl2]
   · rw [shiftDown_yes ltInt c hl2]
     have ih' := ih (j - 1, swp d j (j - 1)) ⟨by dsimp only; omega, by dsimp only; rw [sz_swp]; exact h3⟩ (by dsimp only; omega)
     dsimp only at ih'
     rw [show ((j - 1 : Nat) : Int) = (j : Int) - 1 by omega] at ih'
     clear ih stop
     rw [← ih']
     simp (disch := omega) only [gds, hl, g1, g2, less_ok, hl2, ar_swp]
 · obtain rfl : j = 0 := by omega
   rw [show shiftDown ltInt 0 d = d from rfl, ← stop]
   simp (disch := omega) only [gds, hl]
theorem pins1_ok {K : Nat} (k : Nat) (l : List D) (hl : l.length = N) (a b : Nat) (hab : a < b) (hb : b ≤ N) (hK : N < K) (s : Nat) (hs : s < 100) (ag2 : List D → Option (List D)) (vs1 : List D) (hv1 : ∃ x y, vs1 = x :: .int .i64 (s : Int) :: y) (d : Array Int) (hd : d.size = N) (i : Nat) (hi : a < i) (hib : i ≤ b) (hk : b < k + i) :
  iter k (slices_partialInsertionSortOrdered.b1 (Cl ty tab) K l a b ag2 vs1) [.int .i64 i, .ov 51 nb (ar (D.int .u32) d)] =
   if scanSorted ltInt d b i = b then some [.bool true, .ov 51 nb (ar (D.int .u32) d)] else if b - a < 50 then some [.bool false, .ov 51 nb (ar (D.int .u32) d)] else
    ag2 [.int .i64 (scanSorted ltInt d b i : Nat), .int .i64 ((s + 1 : Nat) : Int), .ov 51 nb (ar (D.int .u32) (fixUp ltInt b (scanSorted ltInt d b i) (fixDown ltInt a (scanSorted ltInt d b i) (swp d (scanSorted ltInt d b i) (scanSorted ltInt d b i - 1)))))] := by
 obtain ⟨x, y, rfl⟩ := hv1
 refine iter_wf (R := List D) (fun t : Nat => [.int .i64 t, .ov 51 nb (ar (D.int .u32) d)]) (fun t => if scanSorted ltInt d b t = b then some [.bool true, .ov 51 nb (ar (D.int .u32) d)] else if b - a < 50 then some [.bool false, .ov 51 nb (ar (D.int .u32) d)] else
    ag2 [.int .i64 (scanSorted ltInt d b t : Nat), .int .i64 ((s + 1 : Nat) : Int), .ov 51 nb (ar (D.int .u32) (fixUp ltInt b (scanSorted ltInt d b t) (fixDown ltInt a (scanSorted ltInt d b t) (swp d (scanSorted ltInt d b t) (scanSorted ltInt d b t - 1)))))]) (fun t => b - t) (fun t => a < t ∧ t ≤ b) (fun i hi ag ih => ?_) k i ⟨hi, hib⟩ (by omega)
 obtain ⟨h1, h2⟩ := hi
 unfold slices_partialInsertionSortOrdered.b1 slices_partialInsertionSortOrdered.j1
 rcases Nat.lt_or_ge i b with c | c
 · have g1 := ar_get (D.int .u32) (d := d) (i := i) (by omega)
   have g2 := ar_get (D.int .u32) (d := d) (i := i - 1) (by omega)
   cases hl2 : ltInt d[i]! d[i - 1]!
   · have ih' := ih (i + 1) ⟨by omega, by omega⟩ (by omega)
     rw [← scanSorted_yes ltInt c hl2, show ((i + 1 : Nat) : Int) = (i : Int) + 1 by omega] at ih'
     rw [← ih']
     clear ih ih'
     simp (disch := omega) only [gds, hl, g1, g2, less_ok, hl2]
   · rw [scanSorted_no ltInt hl2, if_neg (show ¬ i = b by omega)]
     clear ih
     by_cases c50 : b - a < 50
     · rw [if_pos c50]
       simp (disch := omega) only [gds, hl, g1, g2, less_ok, hl2]
     · rw [if_neg c50]
       have sz : (swp d i (i - 1)).size = N := by rw [sz_swp]; exact hd
       unfold fixDown
       by_cases c2 : 2 ≤ i - a
       · have hdn := shDn_ok nb hN (K := K) K l hl b hb hK i c s hs ag2 (x :: .int .i64 (s : Int) :: y) [.int .i64 i, .ov 51 nb (ar (D.int .u32) d)] ⟨_, _, rfl⟩ ⟨_, rfl⟩ (i - 1) (by omega) (swp d i (i - 1)) sz (by omega)
         rw [show ((i - 1 : Nat) : Int) = (i : Int) - 1 by omega] at hdn
         rw [if_pos c2, ← hdn]
         clear hdn
         simp (disch := omega) only [gds, hl, g1, g2, less_ok, hl2, ar_swp]
       · rw [if_neg c2]
         unfold fixUp
         by_cases c3 : 2 ≤ b - i
         · have hu := shUp_ok nb hN (K := K) K l hl b hb i s hs ag2 (x :: .int .i64 (s : Int) :: y) [.int .i64 i, .ov 51 nb (ar (D.int .u32) d)] ⟨_, _, rfl⟩ ⟨_, rfl⟩ (i + 1) (by omega) (by omega) (swp d i (i - 1)) sz (by omega)
           rw [show ((i + 1 : Nat) : Int) = (i : Int) + 1 by omega] at hu
           rw [if_pos c3, ← hu, ← b3_1_eq]
           clear hu
           simp (disch := omega) only [gds, hl, g1, g2, less_ok, hl2, ar_swp]
         · omega
 · obtain rfl : i = b := by omega
   rw [scanSorted_end ltInt (Nat.le_refl _), if_pos rfl]
   clear ih
   simp (disch := omega) only [gds, hl]
theorem pins_ok (d : Array Int) (hd : d.size = N) (a b : Nat) (hab : a < b) (hb : b ≤ N) : Cl ty tab 169 [.ov 51 nb (ar (D.int .u32) d), .int .i64 a, .int .i64 b] = some [.bool (partialInsertionSort ltInt d a b).2, .ov 51 nb (ar (D.int .u32) (partialInsertionSort ltInt d a b).1)] := by
 refine s_slices_partialInsertionSortOrdered (N + 7) nb _ _ _ ?_
 unfold slices_partialInsertionSortOrdered partialInsertionSort
 have hl : (ar (D.int .u32) d).length = N := by rw [ar_length]; exact hd
 have := iter_wf (R := List D) (F := slices_partialInsertionSortOrdered.b0 (Cl ty tab) (N + 7) (ar (D.int .u32) d) a b) (fun s : Nat × Nat × Array Int => [.int .i64 s.1, .int .i64 s.2.1, .ov 51 nb (ar (D.int .u32) s.2.2)]) (fun s => some [.bool (partialIns ltInt a b (5 - s.2.1) s.1 s.2.2).2, .ov 51 nb (ar (D.int .u32) (partialIns ltInt a b (5 - s.2.1) s.1 s.2.2).1)]) (fun s => 5 - s.2.1) (fun s => s.2.2.size = N ∧ s.2.1 ≤ 5 ∧ a < s.1 ∧ s.1 ≤ b) (fun s hs ag ih => ?_) (N + 7) (a + 1, 0, d) ⟨hd, by dsimp only; omega, by dsimp only; omega, by dsimp only; omega⟩ (by dsimp only; omega)
 · dsimp only at this
   rw [show ((a + 1 : Nat) : Int) = (a : Int) + 1 by omega] at this
   simp (disch := omega) only [gds]
   exact this
 · obtain ⟨i, s, d'⟩ := s
   obtain ⟨h1, h2, h3, h4⟩ := hs
   dsimp only at h1 h2 h3 h4 ih ⊢
   unfold slices_partialInsertionSortOrdered.b0
   by_cases c : s < 5
   · have hp := pins1_ok nb hN (K := N + 7) (N + 7) (ar (D.int .u32) d) hl a b hab hb (by omega) s (by omega) ag [.int .i64 i, .int .i64 s, .ov 51 nb (ar (D.int .u32) d')] ⟨_, _, rfl⟩ d' h1 i h3 h4 (by omega)
     rw [show 5 - s = (5 - (s + 1)) + 1 by omega, partialIns_succ]
     have hle := scanSorted_le ltInt d' b _ i (Nat.le_refl _) h4
     generalize scanSorted ltInt d' b i = i2 at *
     by_cases cb : i2 = b
     · rw [if_pos cb] at hp ⊢
       simp (disch := omega) only [gds, hp]
     · rw [if_neg cb] at hp ⊢
       by_cases c50 : b - a < 50
       · rw [if_pos c50] at hp ⊢
         simp (disch := omega) only [gds, hp]
       · rw [if_neg c50] at hp ⊢
         have ih' := ih (i2, s + 1, fixUp ltInt b i2 (fixDown ltInt a i2 (swp d' i2 (i2 - 1)))) ⟨by
           dsimp only
           unfold fixUp fixDown
           split <;> split <;> simp only [sz_shiftUp ltInt _ _ _ _ (Nat.le_refl _), sz_shiftDown, sz_swp, h1], by dsimp only; omega, by dsimp only; omega, by dsimp only; omega⟩ (by dsimp only; omega)
         dsimp only at ih'
         rw [ih'] at hp
         clear ih ih'
         simp (disch := omega) only [gds, hp]
   · obtain rfl : s = 5 := by omega
     clear ih
     simp (disch := omega) only [gds]
     rfl
end
end Go.Proofs.YtapfhcnigmighaaGreat.So
