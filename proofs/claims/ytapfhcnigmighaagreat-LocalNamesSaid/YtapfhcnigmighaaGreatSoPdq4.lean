/- The sort of the library, and the keys of a map. -/
import Derived.Test.YtapfhcnigmighaaGreatSoPdq3
set_option linter.unusedVariables false
set_option linter.unusedSimpArgs false
set_option linter.unusedSectionVars false
namespace Go.Proofs.YtapfhcnigmighaaGreat.So
open Go Go.Proofs.YtapfhcnigmighaaGreat.GD Go.Sort
set_option maxHeartbeats 1000000
section
variable (nb : Bool) {N : Nat} (hN : N < 65536)
include hN
theorem peqDn_ok {K : Nat} (k : Nat) (l : List D) (hl : l.length = N) (a i : Nat) (ha : a < i) (hi : i ≤ N) (ag2 : List D → Option (List D)) (vs3 : List D) (hv3 : ∃ y, vs3 = .int .i64 (i : Int) :: y) (d : Array Int) (hd : d.size = N) (j : Nat) (hj : j < N) (hij : i ≤ j + 2) (hk : j < k) :
  iter k (slices_partitionEqualOrdered.b2 (Cl ty tab) K l a ag2 vs3) [.int .i64 j, .ov 51 nb (ar (D.int .u32) d)] =
   if i > scanDown (fun x => ltInt d[a]! x) d i j then some [.int .i64 i, .ov 51 nb (ar (D.int .u32) d)] else
    ag2 [.int .i64 ((i + 1 : Nat) : Int), .int .i64 ((scanDown (fun x => ltInt d[a]! x) d i j - 1 : Nat) : Int), .ov 51 nb (ar (D.int .u32) (swp d i (scanDown (fun x => ltInt d[a]! x) d i j)))] := by
 obtain ⟨z, rfl⟩ := hv3
 refine iter_wf (R := List D) (fun t : Nat => [.int .i64 t, .ov 51 nb (ar (D.int .u32) d)]) (fun t => if i > scanDown (fun x => ltInt d[a]! x) d i t then some [.int .i64 i, .ov 51 nb (ar (D.int .u32) d)] else
    ag2 [.int .i64 ((i + 1 : Nat) : Int), .int .i64 ((scanDown (fun x => ltInt d[a]! x) d i t - 1 : Nat) : Int), .ov 51 nb (ar (D.int .u32) (swp d i (scanDown (fun x => ltInt d[a]! x) d i t)))]) (fun t => t) (fun t => t < N ∧ i ≤ t + 2) (fun j hj ag ih => ?_) k j ⟨hj, hij⟩ hk
 obtain ⟨h1, h2⟩ := hj
 unfold slices_partitionEqualOrdered.b2 slices_partitionEqualOrdered.j0
 rcases Nat.lt_or_ge j i with c | c
 · rw [scanDown_end c, if_pos c]
   clear ih
   simp (disch := omega) only [gds, hl]
 · have g1 := ar_get (D.int .u32) (d := d) (i := a) (by omega)
   have g2 := ar_get (D.int .u32) (d := d) (i := j) (by omega)
   have g3 := ar_get (D.int .u32) (d := d) (i := i) (by omega)
   cases hp : ltInt d[a]! d[j]!
   · rw [scanDown_no (p := fun x => ltInt d[a]! x) hp, if_neg (show ¬ i > j by omega)]
     clear ih
     rw [show ((i + 1 : Nat) : Int) = (i : Int) + 1 by omega, show ((j - 1 : Nat) : Int) = (j : Int) - 1 by omega]
     simp (disch := omega) only [gds, hl, g1, g2, g3, less_ok, hp, ar_swp]
   · have ih' := ih (j - 1) ⟨by omega, by omega⟩ (by omega)
     rw [← scanDown_yes (p := fun x => ltInt d[a]! x) (by omega) c hp, show (((j - 1 : Nat) : Nat) : Int) = (j : Int) - 1 by omega] at ih'
     rw [← ih']
     clear ih ih'
     simp (disch := omega) only [gds, hl, g1, g2, g3, less_ok, hp]
theorem peqUp_ok {K : Nat} (hK : N < K) (k : Nat) (l : List D) (hl : l.length = N) (a j : Nat) (hj : j < N) (ag2 : List D → Option (List D)) (vs1 : List D) (hv1 : ∃ x y, vs1 = x :: .int .i64 (j : Int) :: y) (d : Array Int) (hd : d.size = N) (i : Nat) (hi : a < i) (hij : i ≤ j + 2) (hiN : i ≤ N) (hk : j + 1 - i < k) :
  iter k (slices_partitionEqualOrdered.b1 (Cl ty tab) K l a ag2 vs1) [.int .i64 i, .ov 51 nb (ar (D.int .u32) d)] =
   if scanUp (fun x => !ltInt d[a]! x) d j i > scanDown (fun x => ltInt d[a]! x) d (scanUp (fun x => !ltInt d[a]! x) d j i) j then some [.int .i64 (scanUp (fun x => !ltInt d[a]! x) d j i : Nat), .ov 51 nb (ar (D.int .u32) d)] else
    ag2 [.int .i64 ((scanUp (fun x => !ltInt d[a]! x) d j i + 1 : Nat) : Int), .int .i64 ((scanDown (fun x => ltInt d[a]! x) d (scanUp (fun x => !ltInt d[a]! x) d j i) j - 1 : Nat) : Int), .ov 51 nb (ar (D.int .u32) (swp d (scanUp (fun x => !ltInt d[a]! x) d j i) (scanDown (fun x => ltInt d[a]! x) d (scanUp (fun x => !ltInt d[a]! x) d j i) j)))] := by
 obtain ⟨x, y, rfl⟩ := hv1
 refine iter_wf (R := List D) (fun t : Nat => [.int .i64 t, .ov 51 nb (ar (D.int .u32) d)]) (fun i => if scanUp (fun x => !ltInt d[a]! x) d j i > scanDown (fun x => ltInt d[a]! x) d (scanUp (fun x => !ltInt d[a]! x) d j i) j then some [.int .i64 (scanUp (fun x => !ltInt d[a]! x) d j i : Nat), .ov 51 nb (ar (D.int .u32) d)] else
    ag2 [.int .i64 ((scanUp (fun x => !ltInt d[a]! x) d j i + 1 : Nat) : Int), .int .i64 ((scanDown (fun x => ltInt d[a]! x) d (scanUp (fun x => !ltInt d[a]! x) d j i) j - 1 : Nat) : Int), .ov 51 nb (ar (D.int .u32) (swp d (scanUp (fun x => !ltInt d[a]! x) d j i) (scanDown (fun x => ltInt d[a]! x) d (scanUp (fun x => !ltInt d[a]! x) d j i) j)))]) (fun t => j + 1 - t) (fun t => a < t ∧ t ≤ j + 2 ∧ t ≤ N) (fun i hi ag ih => ?_) k i ⟨hi, hij, hiN⟩ (by omega)
 obtain ⟨h1, h2, h3⟩ := hi
 have dn := peqDn_ok nb hN (K := K) K l hl a i h1 (by omega) ag2 [.int .i64 (i : Int), .ov 51 nb (ar (D.int .u32) d)] ⟨_, rfl⟩ d hd j hj h2 (by omega)
 unfold slices_partitionEqualOrdered.b1 slices_partitionEqualOrdered.j1
 rcases Nat.lt_or_ge j i with c | c
 · rw [scanUp_end c, ← dn]
   clear ih dn
   simp (disch := omega) only [gds, hl]
 · have g1 := ar_get (D.int .u32) (d := d) (i := a) (by omega)
   have g2 := ar_get (D.int .u32) (d := d) (i := i) (by omega)
   cases hp : ltInt d[a]! d[i]!
   · have ih' := ih (i + 1) ⟨by omega, by omega, by omega⟩ (by omega)
     rw [← scanUp_yes (p := fun x => !ltInt d[a]! x) c (by simp [hp]), show ((i + 1 : Nat) : Int) = (i : Int) + 1 by omega] at ih'
     rw [← ih']
     clear ih ih' dn
     simp (disch := omega) only [gds, hl, g1, g2, less_ok, hp]
   · rw [scanUp_no (p := fun x => !ltInt d[a]! x) (by simp [hp]), ← dn]
     clear ih dn
     simp (disch := omega) only [gds, hl, g1, g2, less_ok, hp]
theorem peq_ok (d : Array Int) (hd : d.size = N) (a b p : Nat) (hab : a < b) (hb : b ≤ N) (hp1 : a ≤ p) (hp2 : p < b) : Cl ty tab 171 [.ov 51 nb (ar (D.int .u32) d), .int .i64 a, .int .i64 b, .int .i64 p] = some [.int .i64 ((partitionEqual ltInt d a b p).1 : Nat), .ov 51 nb (ar (D.int .u32) (partitionEqual ltInt d a b p).2)] := by
 refine s_slices_partitionEqualOrdered (N + 2) nb _ _ _ _ ?_
 unfold slices_partitionEqualOrdered partitionEqual
 have hl : (ar (D.int .u32) d).length = N := by rw [ar_length]; exact hd
 have g1 := ar_get (D.int .u32) (d := d) (i := a) (by omega)
 have g2 := ar_get (D.int .u32) (d := d) (i := p) (by omega)
 have := iter_wf (R := List D) (F := slices_partitionEqualOrdered.b0 (Cl ty tab) (N + 2) (ar (D.int .u32) d) a) (fun s : Nat × Nat × Array Int => [.int .i64 s.1, .int .i64 s.2.1, .ov 51 nb (ar (D.int .u32) s.2.2)]) (fun s => some [.int .i64 ((partEqLoop ltInt a s.1 s.2.1 s.2.2).1 : Nat), .ov 51 nb (ar (D.int .u32) (partEqLoop ltInt a s.1 s.2.1 s.2.2).2)]) (fun s => s.2.1 + 1 - s.1) (fun s => s.2.2.size = N ∧ a < s.1 ∧ s.1 ≤ s.2.1 + 2 ∧ s.1 ≤ N ∧ s.2.1 < N) (fun s hs ag ih => ?_) (N + 2) (a + 1, b - 1, swp d a p) ⟨by dsimp only; rw [sz_swp]; exact hd, by dsimp only; omega, by dsimp only; omega, by dsimp only; omega, by dsimp only; omega⟩ (by dsimp only; omega)
 · dsimp only at this
   rw [show ((a + 1 : Nat) : Int) = (a : Int) + 1 by omega, show ((b - 1 : Nat) : Int) = (b : Int) - 1 by omega] at this
   simp (disch := omega) only [gds, hl, g1, g2, ar_swp]
   exact this
 · obtain ⟨i, j, d'⟩ := s
   obtain ⟨h1, h2, h3, h5, h4⟩ := hs
   dsimp only at h1 h2 h3 h5 h4 ih ⊢
   unfold slices_partitionEqualOrdered.b0
   have up := peqUp_ok nb hN (K := N + 2) (by omega) (N + 2) (ar (D.int .u32) d) hl a j h4 ag [.int .i64 i, .int .i64 j, .ov 51 nb (ar (D.int .u32) d')] ⟨_, _, rfl⟩ d' h1 i h2 h3 h5 (by omega)
   rw [partEqLoop_eq]
   have s1 := scanUp_spec (fun x => !ltInt d'[a]! x) d' j _ i rfl
   have s2 := scanDown_le (fun x => ltInt d'[a]! x) d' (scanUp (fun x => !ltInt d'[a]! x) d' j i) j
   have s3 := scanUp_ge (fun x => !ltInt d'[a]! x) d' j i
   generalize scanUp (fun x => !ltInt d'[a]! x) d' j i = i2 at *
   generalize scanDown (fun x => ltInt d'[a]! x) d' i2 j = j2 at *
   by_cases c : i2 > j2
   · rw [if_pos c] at up ⊢
     clear ih
     simp (disch := omega) only [gds, up]
   · rw [if_neg c] at up ⊢
     rw [ih (i2 + 1, j2 - 1, swp d' i2 j2) ⟨by dsimp only; rw [sz_swp]; exact h1, by dsimp only; omega, by dsimp only; omega, by dsimp only; omega, by dsimp only; omega⟩ (by dsimp only; omega)] at up
     clear ih
     simp (disch := omega) only [gds, up]
theorem parDn_ok {K : Nat} (k : Nat) (l : List D) (hl : l.length = N) (a i : Nat) (ha : a < i) (hi : i ≤ N) (ag2 : List D → Option (List D)) (vs3 : List D) (hv3 : ∃ y, vs3 = .int .i64 (i : Int) :: y) (d : Array Int) (hd : d.size = N) (j : Nat) (hj : j < N) (hij : i ≤ j + 2) (hk : j < k) :
  iter k (slices_partitionOrdered.b4 (Cl ty tab) K l a ag2 vs3) [.int .i64 j, .ov 51 nb (ar (D.int .u32) d)] =
   if i > scanDown (fun x => !ltInt x d[a]!) d i j then some [.int .i64 (scanDown (fun x => !ltInt x d[a]!) d i j : Nat), .bool false, .ov 51 nb (ar (D.int .u32) (swp d (scanDown (fun x => !ltInt x d[a]!) d i j) a))] else
    ag2 [.int .i64 ((i + 1 : Nat) : Int), .int .i64 ((scanDown (fun x => !ltInt x d[a]!) d i j - 1 : Nat) : Int), .ov 51 nb (ar (D.int .u32) (swp d i (scanDown (fun x => !ltInt x d[a]!) d i j)))] := by
 obtain ⟨z, rfl⟩ := hv3
 refine iter_wf (R := List D) (fun t : Nat => [.int .i64 t, .ov 51 nb (ar (D.int .u32) d)]) (fun t => if i > scanDown (fun x => !ltInt x d[a]!) d i t then some [.int .i64 (scanDown (fun x => !ltInt x d[a]!) d i t : Nat), .bool false, .ov 51 nb (ar (D.int .u32) (swp d (scanDown (fun x => !ltInt x d[a]!) d i t) a))] else
    ag2 [.int .i64 ((i + 1 : Nat) : Int), .int .i64 ((scanDown (fun x => !ltInt x d[a]!) d i t - 1 : Nat) : Int), .ov 51 nb (ar (D.int .u32) (swp d i (scanDown (fun x => !ltInt x d[a]!) d i t)))]) (fun t => t) (fun t => t < N ∧ i ≤ t + 2) (fun j hj ag ih => ?_) k j ⟨hj, hij⟩ hk
 obtain ⟨h1, h2⟩ := hj
 have g1 := ar_get (D.int .u32) (d := d) (i := a) (by omega)
 have g2 := ar_get (D.int .u32) (d := d) (i := j) (by omega)
 unfold slices_partitionOrdered.b4 slices_partitionOrdered.j0
 rcases Nat.lt_or_ge j i with c | c
 · rw [scanDown_end c, if_pos c]
   clear ih
   simp (disch := omega) only [gds, hl, g1, g2, ar_swp]
 · have g3 := ar_get (D.int .u32) (d := d) (i := i) (by omega)
   cases hp : ltInt d[j]! d[a]!
   · have ih' := ih (j - 1) ⟨by omega, by omega⟩ (by omega)
     rw [← scanDown_yes (p := fun x => !ltInt x d[a]!) (by omega) c (by simp [hp]), show (((j - 1 : Nat) : Nat) : Int) = (j : Int) - 1 by omega] at ih'
     rw [← ih']
     clear ih ih'
     simp (disch := omega) only [gds, hl, g1, g2, g3, less_ok, hp]
   · rw [scanDown_no (p := fun x => !ltInt x d[a]!) (by simp [hp]), if_neg (show ¬ i > j by omega)]
     clear ih
     rw [show ((i + 1 : Nat) : Int) = (i : Int) + 1 by omega, show ((j - 1 : Nat) : Int) = (j : Int) - 1 by omega]
     simp (disch := omega) only [gds, hl, g1, g2, g3, less_ok, hp, ar_swp]
theorem parUp_ok {K : Nat} (hK : N < K) (k : Nat) (l : List D) (hl : l.length = N) (a j : Nat) (hj : j < N) (ag2 : List D → Option (List D)) (vs1 : List D) (hv1 : ∃ x y, vs1 = x :: .int .i64 (j : Int) :: y) (d : Array Int) (hd : d.size = N) (i : Nat) (hi : a < i) (hij : i ≤ j + 2) (hiN : i ≤ N) (hk : j + 1 - i < k) :
  iter k (slices_partitionOrdered.b3 (Cl ty tab) K l a ag2 vs1) [.int .i64 i, .ov 51 nb (ar (D.int .u32) d)] =
   if scanUp (fun x => ltInt x d[a]!) d j i > scanDown (fun x => !ltInt x d[a]!) d (scanUp (fun x => ltInt x d[a]!) d j i) j then some [.int .i64 (scanDown (fun x => !ltInt x d[a]!) d (scanUp (fun x => ltInt x d[a]!) d j i) j : Nat), .bool false, .ov 51 nb (ar (D.int .u32) (swp d (scanDown (fun x => !ltInt x d[a]!) d (scanUp (fun x => ltInt x d[a]!) d j i) j) a))] else
    ag2 [.int .i64 ((scanUp (fun x => ltInt x d[a]!) d j i + 1 : Nat) : Int), .int .i64 ((scanDown (fun x => !ltInt x d[a]!) d (scanUp (fun x => ltInt x d[a]!) d j i) j - 1 : Nat) : Int), .ov 51 nb (ar (D.int .u32) (swp d (scanUp (fun x => ltInt x d[a]!) d j i) (scanDown (fun x => !ltInt x d[a]!) d (scanUp (fun x => ltInt x d[a]!) d j i) j)))] := by
 obtain ⟨x, y, rfl⟩ := hv1
 refine iter_wf (R := List D) (fun t : Nat => [.int .i64 t, .ov 51 nb (ar (D.int .u32) d)]) (fun i => if scanUp (fun x => ltInt x d[a]!) d j i > scanDown (fun x => !ltInt x d[a]!) d (scanUp (fun x => ltInt x d[a]!) d j i) j then some [.int .i64 (scanDown (fun x => !ltInt x d[a]!) d (scanUp (fun x => ltInt x d[a]!) d j i) j : Nat), .bool false, .ov 51 nb (ar (D.int .u32) (swp d (scanDown (fun x => !ltInt x d[a]!) d (scanUp (fun x => ltInt x d[a]!) d j i) j) a))] else
    ag2 [.int .i64 ((scanUp (fun x => ltInt x d[a]!) d j i + 1 : Nat) : Int), .int .i64 ((scanDown (fun x => !ltInt x d[a]!) d (scanUp (fun x => ltInt x d[a]!) d j i) j - 1 : Nat) : Int), .ov 51 nb (ar (D.int .u32) (swp d (scanUp (fun x => ltInt x d[a]!) d j i) (scanDown (fun x => !ltInt x d[a]!) d (scanUp (fun x => ltInt x d[a]!) d j i) j)))]) (fun t => j + 1 - t) (fun t => a < t ∧ t ≤ j + 2 ∧ t ≤ N) (fun i hi ag ih => ?_) k i ⟨hi, hij, hiN⟩ (by omega)
 obtain ⟨h1, h2, h3⟩ := hi
 have dn := parDn_ok nb hN (K := K) K l hl a i h1 (by omega) ag2 [.int .i64 (i : Int), .ov 51 nb (ar (D.int .u32) d)] ⟨_, rfl⟩ d hd j hj h2 (by omega)
 unfold slices_partitionOrdered.b3 slices_partitionOrdered.j1
 rcases Nat.lt_or_ge j i with c | c
 · rw [scanUp_end c, ← dn]
   clear ih dn
   simp (disch := omega) only [gds, hl]
 · have g1 := ar_get (D.int .u32) (d := d) (i := a) (by omega)
   have g2 := ar_get (D.int .u32) (d := d) (i := i) (by omega)
   cases hp : ltInt d[i]! d[a]!
   · rw [scanUp_no (p := fun x => ltInt x d[a]!) hp, ← dn]
     clear ih dn
     simp (disch := omega) only [gds, hl, g1, g2, less_ok, hp]
   · have ih' := ih (i + 1) ⟨by omega, by omega, by omega⟩ (by omega)
     rw [← scanUp_yes (p := fun x => ltInt x d[a]!) c hp, show ((i + 1 : Nat) : Int) = (i : Int) + 1 by omega] at ih'
     rw [← ih']
     clear ih ih' dn
     simp (disch := omega) only [gds, hl, g1, g2, less_ok, hp]
theorem parLoop_ok (l : List D) (hl : l.length = N) (a : Nat) (i j : Nat) (hi : a < i) (hij : i ≤ j + 2) (hiN : i ≤ N) (hj : j < N) (d : Array Int) (hd : d.size = N) :
  iter (N + 2) (slices_partitionOrdered.b2 (Cl ty tab) (N + 2) l a) [.int .i64 i, .int .i64 j, .ov 51 nb (ar (D.int .u32) d)] = some [.int .i64 ((partLoop ltInt a i j d).1 : Nat), .bool false, .ov 51 nb (ar (D.int .u32) (swp (partLoop ltInt a i j d).2 (partLoop ltInt a i j d).1 a))] := by
 refine iter_wf (R := List D) (fun s : Nat × Nat × Array Int => [.int .i64 s.1, .int .i64 s.2.1, .ov 51 nb (ar (D.int .u32) s.2.2)]) (fun s => some [.int .i64 ((partLoop ltInt a s.1 s.2.1 s.2.2).1 : Nat), .bool false, .ov 51 nb (ar (D.int .u32) (swp (partLoop ltInt a s.1 s.2.1 s.2.2).2 (partLoop ltInt a s.1 s.2.1 s.2.2).1 a))]) (fun s => s.2.1 + 1 - s.1) (fun s => s.2.2.size = N ∧ a < s.1 ∧ s.1 ≤ s.2.1 + 2 ∧ s.1 ≤ N ∧ s.2.1 < N) (fun s hs ag ih => ?_) (N + 2) (i, j, d) ⟨hd, hi, hij, hiN, hj⟩ (by dsimp only; omega)
 obtain ⟨i, j, d'⟩ := s
 obtain ⟨h1, h2, h3, h5, h4⟩ := hs
 dsimp only at h1 h2 h3 h5 h4 ih ⊢
 unfold slices_partitionOrdered.b2
 have up := parUp_ok nb hN (K := N + 2) (by omega) (N + 2) l hl a j h4 ag [.int .i64 i, .int .i64 j, .ov 51 nb (ar (D.int .u32) d')] ⟨_, _, rfl⟩ d' h1 i h2 h3 h5 (by omega)
 rw [partLoop_eq]
 have s1 := scanUp_spec (fun x => ltInt x d'[a]!) d' j _ i rfl
 have s2 := scanDown_le (fun x => !ltInt x d'[a]!) d' (scanUp (fun x => ltInt x d'[a]!) d' j i) j
 have s3 := scanUp_ge (fun x => ltInt x d'[a]!) d' j i
 generalize scanUp (fun x => ltInt x d'[a]!) d' j i = i2 at *
 generalize scanDown (fun x => !ltInt x d'[a]!) d' i2 j = j2 at *
 by_cases c : i2 > j2
 · rw [if_pos c] at up ⊢
   clear ih
   simp (disch := omega) only [gds, up]
 · rw [if_neg c] at up ⊢
   rw [ih (i2 + 1, j2 - 1, swp d' i2 j2) ⟨by dsimp only; rw [sz_swp]; exact h1, by dsimp only; omega, by dsimp only; omega, by dsimp only; omega, by dsimp only; omega⟩ (by dsimp only; omega)] at up
   clear ih
   simp (disch := omega) only [gds, up]
def parR (nb : Bool) (a i j : Nat) (d : Array Int) : List D :=
 if i > j then [.int .i64 j, .bool true, .ov 51 nb (ar (D.int .u32) (swp d j a))] else
  [.int .i64 ((partLoop ltInt a (i + 1) (j - 1) (swp d i j)).1 : Nat), .bool false, .ov 51 nb (ar (D.int .u32) (swp (partLoop ltInt a (i + 1) (j - 1) (swp d i j)).2 (partLoop ltInt a (i + 1) (j - 1) (swp d i j)).1 a))]
theorem par1_ok (k : Nat) (l : List D) (hl : l.length = N) (a i : Nat) (ha : a < i) (hi : i ≤ N) (vs3 : List D) (hv3 : ∃ y, vs3 = .int .i64 (i : Int) :: y) (d : Array Int) (hd : d.size = N) (j : Nat) (hj : j < N) (hij : i ≤ j + 2) (hk : j < k) :
  iter k (slices_partitionOrdered.b1 (Cl ty tab) (N + 2) l a vs3) [.int .i64 j, .ov 51 nb (ar (D.int .u32) d)] = some (parR nb a i (scanDown (fun x => !ltInt x d[a]!) d i j) d) := by
 obtain ⟨z, rfl⟩ := hv3
 refine iter_wf (R := List D) (fun t : Nat => [.int .i64 t, .ov 51 nb (ar (D.int .u32) d)]) (fun t => some (parR nb a i (scanDown (fun x => !ltInt x d[a]!) d i t) d)) (fun t => t) (fun t => t < N ∧ i ≤ t + 2) (fun j hj ag ih => ?_) k j ⟨hj, hij⟩ hk
 obtain ⟨h1, h2⟩ := hj
 have g1 := ar_get (D.int .u32) (d := d) (i := a) (by omega)
 have g2 := ar_get (D.int .u32) (d := d) (i := j) (by omega)
 unfold slices_partitionOrdered.b1 slices_partitionOrdered.j2
 rcases Nat.lt_or_ge j i with c | c
 · rw [scanDown_end c]
   unfold parR
   rw [if_pos c]
   clear ih
   simp (disch := omega) only [gds, hl, g1, g2, ar_swp]
 · have g3 := ar_get (D.int .u32) (d := d) (i := i) (by omega)
   cases hp : ltInt d[j]! d[a]!
   · have ih' := ih (j - 1) ⟨by omega, by omega⟩ (by omega)
     rw [← scanDown_yes (p := fun x => !ltInt x d[a]!) (by omega) c (by simp [hp]), show (((j - 1 : Nat) : Nat) : Int) = (j : Int) - 1 by omega] at ih'
     rw [← ih']
     clear ih ih'
     simp (disch := omega) only [gds, hl, g1, g2, g3, less_ok, hp]
   · rw [scanDown_no (p := fun x => !ltInt x d[a]!) (by simp [hp])]
     unfold parR
     rw [if_neg (show ¬ i > j by omega)]
     clear ih
     have pl := parLoop_ok nb hN l hl a (i + 1) (j - 1) (by omega) (by omega) (by omega) (by omega) (swp d i j) (by rw [sz_swp]; exact hd)
     rw [show ((i + 1 : Nat) : Int) = (i : Int) + 1 by omega, show ((j - 1 : Nat) : Int) = (j : Int) - 1 by omega] at pl
     simp (disch := omega) only [gds, hl, g1, g2, g3, less_ok, hp, ar_swp, pl]
theorem par0_ok (k : Nat) (l : List D) (hl : l.length = N) (a b : Nat) (hab : a < b) (hb : b ≤ N) (d : Array Int) (hd : d.size = N) (i : Nat) (hi : a < i) (hib : i ≤ b) (hk : b < k + i) :
  iter k (slices_partitionOrdered.b0 (Cl ty tab) (N + 2) l a b) [.int .i64 i, .ov 51 nb (ar (D.int .u32) d)] = some (parR nb a (scanUp (fun x => ltInt x d[a]!) d (b - 1) i) (scanDown (fun x => !ltInt x d[a]!) d (scanUp (fun x => ltInt x d[a]!) d (b - 1) i) (b - 1)) d) := by
 refine iter_wf (R := List D) (fun t : Nat => [.int .i64 t, .ov 51 nb (ar (D.int .u32) d)]) (fun i => some (parR nb a (scanUp (fun x => ltInt x d[a]!) d (b - 1) i) (scanDown (fun x => !ltInt x d[a]!) d (scanUp (fun x => ltInt x d[a]!) d (b - 1) i) (b - 1)) d)) (fun t => b - t) (fun t => a < t ∧ t ≤ b) (fun i hi ag ih => ?_) k i ⟨hi, hib⟩ (by omega)
 obtain ⟨h1, h2⟩ := hi
 have dn := par1_ok nb hN (N + 2) l hl a i h1 (by omega) [.int .i64 (i : Int), .ov 51 nb (ar (D.int .u32) d)] ⟨_, rfl⟩ d hd (b - 1) (by omega) (by omega) (by omega)
 rw [show ((b - 1 : Nat) : Int) = (b : Int) - 1 by omega] at dn
 unfold slices_partitionOrdered.b0 slices_partitionOrdered.j3
 rcases Nat.lt_or_ge (b - 1) i with c | c
 · rw [scanUp_end c, ← dn]
   clear ih dn
   simp (disch := omega) only [gds, hl]
 · have g1 := ar_get (D.int .u32) (d := d) (i := a) (by omega)
   have g2 := ar_get (D.int .u32) (d := d) (i := i) (by omega)
   cases hp : ltInt d[i]! d[a]!
   · rw [scanUp_no (p := fun x => ltInt x d[a]!) hp, ← dn]
     clear ih dn
     simp (disch := omega) only [gds, hl, g1, g2, less_ok, hp]
   · have ih' := ih (i + 1) ⟨by omega, by omega⟩ (by omega)
     rw [← scanUp_yes (p := fun x => ltInt x d[a]!) c hp, show ((i + 1 : Nat) : Int) = (i : Int) + 1 by omega] at ih'
     rw [← ih']
     clear ih ih' dn
     simp (disch := omega) only [gds, hl, g1, g2, less_ok, hp]
theorem par_ok (d : Array Int) (hd : d.size = N) (a b p : Nat) (hab : a < b) (hb : b ≤ N) (hp1 : a ≤ p) (hp2 : p < b) : Cl ty tab 172 [.ov 51 nb (ar (D.int .u32) d), .int .i64 a, .int .i64 b, .int .i64 p] = some [.int .i64 ((partition ltInt d a b p).1 : Nat), .bool (partition ltInt d a b p).2.1, .ov 51 nb (ar (D.int .u32) (partition ltInt d a b p).2.2)] := by
 refine s_slices_partitionOrdered (N + 2) nb _ _ _ _ ?_
 unfold slices_partitionOrdered
 have hl : (ar (D.int .u32) d).length = N := by rw [ar_length]; exact hd
 have g1 := ar_get (D.int .u32) (d := d) (i := a) (by omega)
 have g2 := ar_get (D.int .u32) (d := d) (i := p) (by omega)
 have e : [D.int .i64 ((partition ltInt d a b p).1 : Nat), .bool (partition ltInt d a b p).2.1, .ov 51 nb (ar (D.int .u32) (partition ltInt d a b p).2.2)] = parR nb a (scanUp (fun x => ltInt x (swp d a p)[a]!) (swp d a p) (b - 1) (a + 1)) (scanDown (fun x => !ltInt x (swp d a p)[a]!) (swp d a p) (scanUp (fun x => ltInt x (swp d a p)[a]!) (swp d a p) (b - 1) (a + 1)) (b - 1)) (swp d a p) := by
  unfold partition parR
  dsimp only
  split <;> rfl
 rw [e]
 have szd : (swp d a p).size = N := by rw [sz_swp]; exact hd
 have p0 := par0_ok nb hN (N + 2) (ar (D.int .u32) d) hl a b hab hb (swp d a p) szd (a + 1) (by omega) (by omega) (by omega)
 rw [show ((a + 1 : Nat) : Int) = (a : Int) + 1 by omega] at p0
 simp (disch := omega) only [gds, hl, g1, g2, ar_swp]
 exact p0
end
end Go.Proofs.YtapfhcnigmighaaGreat.So
