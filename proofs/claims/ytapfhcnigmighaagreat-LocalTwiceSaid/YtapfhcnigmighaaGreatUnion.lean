import Derived.Test.YtapfhcnigmighaaGreatR
import Derived.Test.YtapfhcnigmighaaGreatG4
set_option linter.unusedVariables false
set_option linter.unusedSimpArgs false
namespace Go.Proofs.YtapfhcnigmighaaGreat.Own
open Go Go.Proofs.YtapfhcnigmighaaGreat.GD
def insK (x : Int) : List Int → List Int
 | [] => [x]
 | k :: ks => if x = k then k :: ks else k :: insK x ks
theorem keq_u32 (a b : Int) : keqD (D.int .u32 a) (D.int .u32 b) = decide (a = b) := by
 simp [keqD, eqL, eq0, cellsOf]; rfl
theorem mputK_u32 (x : Int) : ∀ K : List Int, mputK (D.int .u32 x) (K.map (D.int .u32)) = (insK x K).map (D.int .u32)
 | [] => rfl
 | k :: ks => by
  simp only [List.map_cons, mputK, keq_u32, insK]
  by_cases h : x = k
  · simp [h]
  · simp [h, mputK_u32 x ks]
theorem mdelK_u32 (x : Int) : ∀ K : List Int, mdelK (D.int .u32 x) (K.map (D.int .u32)) = (K.erase x).map (D.int .u32)
 | [] => rfl
 | k :: ks => by
  simp only [List.map_cons, mdelK, keq_u32, List.erase_cons]
  by_cases h : x = k
  · simp [h]
  · have h' : ¬ k = x := fun e => h e.symm
    simp [h, h', mdelK_u32 x ks]
theorem insK_len (x : Int) : ∀ K : List Int, (insK x K).length ≤ K.length + 1
 | [] => by simp [insK]
 | k :: ks => by
  unfold insK
  split
  · simp
  · have := insK_len x ks; simp; omega
def keysOf (K : List Int) : List Int → List Int
 | [] => K
 | x :: xs => keysOf (insK x K) xs
def unionK (L : List Int) : List Int := if 1 < (keysOf [] L).length then (keysOf [] L).erase 0 else keysOf [] L
def unionL (L : List Int) : List Int := (unionK L).mergeSort fun x y => decide (x ≤ y)
theorem keysOf_len : ∀ (L K : List Int), (keysOf K L).length ≤ K.length + L.length
 | [], K => by simp [keysOf]
 | x :: xs, K => by
  have h1 := keysOf_len xs (insK x K)
  have h2 := insK_len x K
  simp only [keysOf, List.length_cons]; omega
theorem all_u32 (K : List Int) : (K.map (D.int .u32)).all isU32 = true := by simp [isU32]
theorem sorted_u32 (K : List Int) (vs : List D) (h : K.length < 65536) : (Cl ty tab 141 [.mpl (K.map (D.int .u32)) vs]).bind (fun r4 => Cl ty tab 140 [.fn 156 ((r4.getD 0 .undef).cell 0).caps]) = some [.ov 51 K.isEmpty ((K.mergeSort fun x y => decide (x ≤ y)).map (D.int .u32))] := by
 rw [s_maps_Keys]
 simp only [keysSpec, Option.bind_some, List.getD_cons_zero, D.cell, D.caps, s_slices_Sorted, sortedSpec]
 have e : (K.map (D.int .u32)).map D.i = K := by
  rw [List.map_map]; exact (List.map_congr_left fun x _ => rfl).trans (List.map_id _)
 rw [if_pos ⟨trivial, all_u32 K, by simpa using h⟩, e]
 simp
theorem concat_ok (n : Bool) (A B : List D) (n1 n2 : Bool) (hA : A.length < 65536) (hB : B.length < 65536) : ∃ nb, Cl ty tab 139 [.sl 26 n [.sl 51 n1 A, .sl 51 n2 B]] = some [.ov 51 nb (A ++ B)] := by
 have key : ∀ nb0, Cl ty tab 153 [.ov 51 true [], .int .i64 ((A.length + B.length : Nat) : Int)] = some [.ov 51 nb0 []] → ∃ nb, Cl ty tab 139 [.sl 26 n [.sl 51 n1 A, .sl 51 n2 B]] = some [.ov 51 nb (A ++ B)] := fun nb0 hg => by
  refine ⟨B.isEmpty && (A.isEmpty && nb0), ?_⟩
  refine s_slices_Concat 3 n _ ?_
  unfold slices_Concat
  simp only [iter]
  unfold slices_Concat.b0
  have e1 : ((A.length : Nat) : Int) + ((B.length : Nat) : Int) = ((A.length + B.length : Nat) : Int) := by omega
  simp (disch := omega) only [gds, List.getD_cons_zero, Int.zero_add, e1, hg, show ((1 : Int)).toNat = 1 from rfl, show ((0 : Int)).toNat = 0 from rfl, iter]
  unfold slices_Concat.b1
  simp (disch := omega) only [gds, List.getD_cons_zero, Int.zero_add, show ((1 : Int)).toNat = 1 from rfl, show ((0 : Int)).toNat = 0 from rfl, List.length_append]
 refine key (decide (((A.length + B.length : Nat) : Int) = 0)) ?_
 rw [s_slices_Grow, growSpec]
 rw [if_pos ⟨rfl, by omega, by omega⟩]
theorem union_ok (x y : Int) (n1 n2 : Bool) (A B : List Int) (hA : A.length ≤ 1000) (hB : B.length ≤ 1000) : Cl ty tab 103 [.agg [.int .u32 x, .sl 51 n1 (A.map (D.int .u32))], .agg [.int .u32 y, .sl 51 n2 (B.map (D.int .u32))]] =
  some [.agg [.int .u32 x, .sl 51 (unionK (A ++ B)).isEmpty ((unionL (A ++ B)).map (D.int .u32))]] := by
 obtain ⟨nb, hc⟩ := concat_ok false (A.map (D.int .u32)) (B.map (D.int .u32)) n1 n2 (by simp; omega) (by simp; omega)
 refine s_local_union 2002 _ _ _ _ _ _ ?_
 unfold local_union
 rw [hc]
 simp only [Option.bind_some]
 rw [← List.map_append]
 have hl : (A ++ B).length ≤ 2000 := by simp; omega
 generalize A ++ B = L at *
 have := iter_wf (R := List D) (F := local_union.b0 (Cl ty tab) 2002 [.ov 51 nb (L.map (D.int .u32))]) (fun s : Nat × List Int × List D => [.int .i64 s.1, .pv [.int .u32 x, .sl 51 n1 (A.map (D.int .u32))], .pv [.int .u32 0, .ov 51 true []], .mpv (s.2.1.map (D.int .u32)) s.2.2, .ov 51 nb (L.map (D.int .u32))])
  (fun s => some [.agg [.int .u32 x, .sl 51 (unionK L).isEmpty ((unionL L).map (D.int .u32))]]) (fun s => L.length + 1 - s.1) (fun s => s.1 ≤ L.length ∧ keysOf s.2.1 (L.drop s.1) = keysOf [] L) (fun s hs ag ih => ?_) 2002 (0, [], []) ⟨Nat.zero_le _, rfl⟩ (by dsimp only; omega)
 · dsimp only at this
   simp (disch := omega) only [gds]
   exact this
 · obtain ⟨i, K, vs⟩ := s
   obtain ⟨h1, h2⟩ := hs
   dsimp only at h1 h2 ih ⊢
   unfold local_union.b0
   rcases Nat.lt_or_ge i L.length with c | c
   · have g : (L.map (D.int .u32)).getD i .undef = .int .u32 L[i] := by simp [zq1, c]
     rw [List.drop_eq_getElem_cons c] at h2
     have ih' := ih (i + 1, insK L[i] K, mputV (D.int .u32 L[i]) (D.bool true) (K.map (D.int .u32)) vs) ⟨by dsimp only; omega, h2⟩ (by dsimp only; omega)
     dsimp only at ih'
     rw [show ((i + 1 : Nat) : Int) = (i : Int) + 1 by omega] at ih'
     clear ih
     simp (disch := omega) only [gds, g, mputK_u32, D.mks, D.mvs]
     exact ih'
   · obtain rfl : i = L.length := by omega
     rw [List.drop_length] at h2
     have h2 : K = keysOf [] L := h2
     have hK := keysOf_len L []
     clear ih
     unfold unionL unionK
     rw [← h2]
     rw [← h2] at hK
     simp only [List.length_nil] at hK
     by_cases c2 : 1 < K.length
     · have hs := sorted_u32 (K.erase 0) (mdelV (D.int .u32 0) (K.map (D.int .u32)) vs) (by have := List.length_erase_le (a := (0 : Int)) (l := K); omega)
       rw [if_pos c2]
       rw [Option.bind_eq_some_iff] at hs
       obtain ⟨r4, e1, e2⟩ := hs
       simp (disch := omega) only [gds, mdelK_u32, D.mks, D.mvs, e1, e2]
     · have hs := sorted_u32 K vs (by omega)
       rw [if_neg c2]
       rw [Option.bind_eq_some_iff] at hs
       obtain ⟨r4, e1, e2⟩ := hs
       simp (disch := omega) only [gds, D.mks, D.mvs, e1, e2]
end Go.Proofs.YtapfhcnigmighaaGreat.Own
