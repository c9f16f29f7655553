/- The sort of the library, and the keys of a map. -/
import Derived.Test.YtapfhcnigmighaaGreatSoPdq4
set_option linter.unusedVariables false
set_option linter.unusedSimpArgs false
set_option linter.unusedSectionVars false
namespace Go.Proofs.YtapfhcnigmighaaGreat.So
open Go Go.Proofs.YtapfhcnigmighaaGreat.GD Go.Sort
set_option maxHeartbeats 1000000
theorem hintI_inc (h : Hint) : (hintI h == 1) = decide (h = Hint.increasing) := by cases h <;> rfl
theorem hintI_dec (h : Hint) : (hintI h == 2) = decide (h = Hint.decreasing) := by cases h <;> rfl
section
variable (nb : Bool) {N : Nat} (hN : N < 65536) {l : List D} (hl : l.length = N) {a b : Nat} (hab : a + 12 < b) (hb : b ≤ N) (ag : List D → Option (List D)) (l0 : Nat) (wb wp : Bool) (x : D)
include hN hl hab hb
theorem pE0 (d : Array Int) (hd : d.size = N) (h0 : l0 ≠ 0) (h1 : l0 < 1000) :
  slices_pdqsortOrdered.b0 (Cl ty tab) (N + 2) l [.int .i64 a, .int .i64 b, .int .i64 l0, .bool wb, .bool wp, .ov 51 nb (ar (D.int .u32) d)] ag =
   slices_pdqsortOrdered.j3 (Cl ty tab) (N + 2) l ag [.int .i64 a, .int .i64 b, .int .i64 l0, .bool wb, .bool wp, .ov 51 nb (ar (D.int .u32) d)] ((if _h : (!wb) = true then l0 - 1 else l0 : Nat) : Int) nb (ar (D.int .u32) (if _h : (!wb) = true then breakPatterns d a b else d)) := by
 unfold slices_pdqsortOrdered.b0
 have e := brk_ok nb hN d hd a b (by omega) hb
 cases wb
 · rw [dif_pos (show (!false) = true from rfl), dif_pos (show (!false) = true from rfl), show ((l0 - 1 : Nat) : Int) = (l0 : Int) - 1 by omega]
   simp (disch := omega) only [gds, e]
 · rw [dif_neg (show ¬ (!true) = true by simp), dif_neg (show ¬ (!true) = true by simp)]
   simp (disch := omega) only [gds]
theorem pE1 (d : Array Int) (hd : d.size = N) (lim : Int) :
  slices_pdqsortOrdered.j3 (Cl ty tab) (N + 2) l ag [.int .i64 a, .int .i64 b, .int .i64 l0, .bool wb, .bool wp, x] lim nb (ar (D.int .u32) d) =
   slices_pdqsortOrdered.j2 (Cl ty tab) (N + 2) l ag [.int .i64 a, .int .i64 b, .int .i64 l0, .bool wb, .bool wp, x] lim ((if _h : (choosePivot ltInt d a b).2 = Hint.decreasing then (b - 1) - ((choosePivot ltInt d a b).1 - a) else (choosePivot ltInt d a b).1 : Nat) : Int)
    (hintI (if _h : (choosePivot ltInt d a b).2 = Hint.decreasing then Hint.increasing else (choosePivot ltInt d a b).2)) nb (ar (D.int .u32) (if _h : (choosePivot ltInt d a b).2 = Hint.decreasing then reverseRange d a b else d)) := by
 unfold slices_pdqsortOrdered.j3
 have e := piv_ok nb hN d hd a b (by omega) hb
 have e2 := rev_ok nb hN d hd a b (by omega) hb
 have hc := choosePivot_holds ltInt d a b (by omega)
 generalize choosePivot ltInt d a b = c at *
 obtain ⟨c1, c2⟩ := c
 dsimp only at e hc ⊢
 by_cases h : c2 = Hint.decreasing
 · subst h
   rw [dif_pos rfl, dif_pos rfl, dif_pos rfl, show ((b - 1 - (c1 - a) : Nat) : Int) = (b : Int) - 1 - ((c1 : Int) - a) by omega]
   simp only [hintI] at e ⊢
   simp (disch := omega) only [gds, e, e2]
 · rw [dif_neg h, dif_neg h, dif_neg h]
   have hn : (hintI c2 == 2) = false := by rw [hintI_dec]; simp [h]
   simp (disch := omega) only [grs, e, Option.bind_some, List.getD_cons_zero, List.getD_cons_succ, cell_int, i_int, hn, cf, nb_ov, els_ov]
theorem pE2 (d : Array Int) (hd : d.size = N) (lim p : Int) (h : Hint) :
  slices_pdqsortOrdered.j2 (Cl ty tab) (N + 2) l ag [.int .i64 a, .int .i64 b, .int .i64 l0, .bool wb, .bool wp, x] lim p (hintI h) nb (ar (D.int .u32) d) =
   if (if _h : (wb && wp && decide (h = Hint.increasing)) = true then partialInsertionSort ltInt d a b else (d, false)).2 = true then some [.ov 51 nb (ar (D.int .u32) (if _h : (wb && wp && decide (h = Hint.increasing)) = true then partialInsertionSort ltInt d a b else (d, false)).1)] else
    slices_pdqsortOrdered.j1 (Cl ty tab) (N + 2) l ag [.int .i64 a, .int .i64 b, .int .i64 l0, .bool wb, .bool wp, x] lim p nb (ar (D.int .u32) (if _h : (wb && wp && decide (h = Hint.increasing)) = true then partialInsertionSort ltInt d a b else (d, false)).1) := by
 unfold slices_pdqsortOrdered.j2
 have e := pins_ok nb hN d hd a b (by omega) hb
 rw [hintI_inc]
 generalize partialInsertionSort ltInt d a b = r at *
 obtain ⟨r1, r2⟩ := r
 cases wb <;> cases wp <;> cases h <;> cases r2 <;> simp [grs, e, cell_int, cell_bool, b_bool, nb_ov, els_ov, i_int]
theorem pE3 (d : Array Int) (hd : d.size = N) (lim : Int) (p : Nat) (hp1 : a ≤ p) (hp2 : p < b) :
  slices_pdqsortOrdered.j1 (Cl ty tab) (N + 2) l ag [.int .i64 a, .int .i64 b, .int .i64 l0, .bool wb, .bool wp, x] lim p nb (ar (D.int .u32) d) =
   if (decide (a > 0) && !ltInt d[a - 1]! d[p]!) = true then ag [.int .i64 ((partitionEqual ltInt d a b p).1 : Nat), .int .i64 b, .int .i64 lim, .bool wb, .bool wp, .ov 51 nb (ar (D.int .u32) (partitionEqual ltInt d a b p).2)] else
    slices_pdqsortOrdered.j0 (Cl ty tab) (N + 2) ag [.int .i64 a, .int .i64 b, .int .i64 l0, .bool wb, .bool wp, x] lim p nb (ar (D.int .u32) d) := by
 unfold slices_pdqsortOrdered.j1
 have e := peq_ok nb hN d hd a b p (by omega) hb hp1 hp2
 by_cases h0 : 0 < a
 · have g1 := ar_get (D.int .u32) (d := d) (i := a - 1) (by omega)
   have g2 := ar_get (D.int .u32) (d := d) (i := p) (by omega)
   cases hc : ltInt d[a - 1]! d[p]!
   · rw [if_pos (show (decide (a > 0) && !false) = true by simp [h0])]
     simp (disch := omega) only [gds, hl, g1, g2, less_ok, hc, e]
   · rw [if_neg (show ¬ (decide (a > 0) && !true) = true by simp)]
     simp (disch := omega) only [gds, hl, g1, g2, less_ok, hc, e]
 · rw [if_neg (show ¬ (decide (a > 0) && !ltInt d[a - 1]! d[p]!) = true by simp [h0])]
   simp (disch := omega) only [gds, hl]
theorem pE4L (d : Array Int) (hd : d.size = N) (lim : Nat) (p : Nat) (hp1 : a ≤ p) (hp2 : p < b) (mid : Nat) (ap : Bool) (d4 dL : Array Int) (hx : partition ltInt d a b p = (mid, ap, d4)) (hm1 : a ≤ mid) (hm2 : mid < b) (hlt : mid - a < b - mid)
  (hr : Cl ty tab 161 [.ov 51 nb (ar (D.int .u32) d4), .int .i64 a, .int .i64 mid, .int .i64 lim] = some [.ov 51 nb (ar (D.int .u32) dL)]) :
  slices_pdqsortOrdered.j0 (Cl ty tab) (N + 2) ag [.int .i64 a, .int .i64 b, .int .i64 l0, .bool wb, .bool wp, x] lim p nb (ar (D.int .u32) d) =
   ag [.int .i64 ((mid + 1 : Nat) : Int), .int .i64 b, .int .i64 lim, .bool (decide (mid - a ≥ (b - a) / 8)), .bool ap, .ov 51 nb (ar (D.int .u32) dL)] := by
 unfold slices_pdqsortOrdered.j0
 have e := par_ok nb hN d hd a b p (by omega) hb hp1 hp2
 rw [hx] at e
 have et : ((b : Int) - a).tdiv 8 = (((b - a) / 8 : Nat) : Int) := by rw [← tdivN]; congr 1; omega
 have ed : decide ((((b - a) / 8 : Nat) : Int) ≤ (mid : Int) - a) = decide (mid - a ≥ (b - a) / 8) := by
  apply decide_eq_decide.2; omega
 rw [show ((mid + 1 : Nat) : Int) = (mid : Int) + 1 by omega]
 simp (disch := omega) only [gds, e, hr, et, ed]
theorem pE4R (d : Array Int) (hd : d.size = N) (lim : Nat) (p : Nat) (hp1 : a ≤ p) (hp2 : p < b) (mid : Nat) (ap : Bool) (d4 dL : Array Int) (hx : partition ltInt d a b p = (mid, ap, d4)) (hm1 : a ≤ mid) (hm2 : mid < b) (hlt : ¬ mid - a < b - mid)
  (hr : Cl ty tab 161 [.ov 51 nb (ar (D.int .u32) d4), .int .i64 ((mid + 1 : Nat) : Int), .int .i64 b, .int .i64 lim] = some [.ov 51 nb (ar (D.int .u32) dL)]) :
  slices_pdqsortOrdered.j0 (Cl ty tab) (N + 2) ag [.int .i64 a, .int .i64 b, .int .i64 l0, .bool wb, .bool wp, x] lim p nb (ar (D.int .u32) d) =
   ag [.int .i64 a, .int .i64 mid, .int .i64 lim, .bool (decide (b - mid ≥ (b - a) / 8)), .bool ap, .ov 51 nb (ar (D.int .u32) dL)] := by
 unfold slices_pdqsortOrdered.j0
 have e := par_ok nb hN d hd a b p (by omega) hb hp1 hp2
 rw [hx] at e
 have et : ((b : Int) - a).tdiv 8 = (((b - a) / 8 : Nat) : Int) := by rw [← tdivN]; congr 1; omega
 have ed : decide ((((b - a) / 8 : Nat) : Int) ≤ (b : Int) - mid) = decide (b - mid ≥ (b - a) / 8) := by
  apply decide_eq_decide.2; omega
 rw [show ((mid + 1 : Nat) : Int) = (mid : Int) + 1 by omega] at hr
 simp (disch := omega) only [gds, e, hr, et, ed]
end
section
variable (nb : Bool) {N : Nat} (hN : N < 65536)
include hN
theorem pdqI_ok (d : Array Int) (a b limit : Nat) (wb wp : Bool) : a ≤ b → b ≤ d.size → Below ltInt a b d → d.size = N → limit < 1000 → ∀ (l : List D) (k : Nat), l.length = N → b - a < k →
  iter k (slices_pdqsortOrdered.b0 (Cl ty tab) (N + 2) l) [.int .i64 a, .int .i64 b, .int .i64 limit, .bool wb, .bool wp, .ov 51 nb (ar (D.int .u32) d)] = some [.ov 51 nb (ar (D.int .u32) (pdq ltInt d a b limit wb wp))] := by
 have hS := swo_ltInt
 fun_induction pdq ltInt d a b limit wb wp
 case case1 d a b limit wb wp h12 =>
  intro hab hb hB hd hlim l k hl hk
  obtain ⟨k, rfl⟩ : ∃ j, k = j + 1 := ⟨k - 1, by omega⟩
  unfold iter slices_pdqsortOrdered.b0
  have e := ins_ok nb hN d hd a b hab (by omega)
  simp (disch := omega) only [gds, e]
 case case2 d a b wb wp h12 =>
  intro hab hb hB hd hlim l k hl hk
  obtain ⟨k, rfl⟩ : ∃ j, k = j + 1 := ⟨k - 1, by omega⟩
  unfold iter slices_pdqsortOrdered.b0
  have e := heap_ok nb hN d hd a b (by omega) (by omega)
  simp (disch := omega) only [gds, e]
 case case3 d a b limit wb wp h12 hl0 d1 c d2 hint pi hpi2 =>
  intro hab hb hB hd hlim l k hl hk
  obtain ⟨k, rfl⟩ : ∃ j, k = j + 1 := ⟨k - 1, by omega⟩
  have s1 : PermIn a b d d1 := step_break d hab hb _
  have b1 : b ≤ d1.size := by rw [s1.1]; exact hb
  have s2 : PermIn a b d1 d2 := step_reverse reverseRange_holds d1 hab b1 _
  unfold iter
  rw [pE0 nb hN hl (a := a) (b := b) (by omega) (by omega) _ limit wb wp d hd hl0 hlim, pE1 nb hN hl (a := a) (b := b) (by omega) (by omega) _ limit wb wp _ d1 (by rw [s1.1]; exact hd), pE2 nb hN hl (a := a) (b := b) (by omega) (by omega) _ limit wb wp _ d2 (by rw [s2.1, s1.1]; exact hd), if_pos hpi2]
 case case4 d a b limit0 wb wp h12 hl0 d1 limit c d2 pivot hint pi hpi2 d3 hc mid d4 hx hg ih1 =>
  intro hab hb hB hd hlim l k hl hk
  obtain ⟨k, rfl⟩ : ∃ j, k = j + 1 := ⟨k - 1, by omega⟩
  have s1 : PermIn a b d d1 := step_break d hab hb _
  have b1 : b ≤ d1.size := by rw [s1.1]; exact hb
  have s2 : PermIn a b d1 d2 := step_reverse reverseRange_holds d1 hab b1 _
  have b2 : b ≤ d2.size := by rw [s2.1]; exact b1
  have B2 : Below ltInt a b d2 := (hB.perm hb s1).perm b1 s2
  have s3 := step_partial partialInsertionSort_holds hS d2 (a := a) (b := b) (by omega) b2 B2 ((wb && wp && decide (hint = Hint.increasing)) = true)
  have s3' : PermIn a b d2 d3 := s3.1
  have b3 : b ≤ d3.size := by rw [s3'.1]; exact b2
  have B3 : Below ltInt a b d3 := B2.perm b2 s3'
  have hc0 := choosePivot_holds ltInt d1 a b (by omega)
  have hpv : a ≤ pivot ∧ pivot < b := pivot_range hc0.1 hc0.2 _
  have hd3 : d3.size = N := by rw [s3'.1, s2.1, s1.1]; exact hd
  have hc' := hc
  simp only [zq3, decide_eq_true_eq, Bool.not_eq_true'] at hc
  obtain ⟨hm1, hm2, hs4, hB4, hfin⟩ := round_eq hS (partitionEqual_holds ltInt) hc.1 hpv.1 hpv.2 b3 B3 hc.2 hx
  have hll : limit < 1000 := by simp only [limit]; split <;> omega
  unfold iter
  rw [pE0 nb hN hl (a := a) (b := b) (by omega) (by omega) _ limit0 wb wp d hd hl0 hlim, pE1 nb hN hl (a := a) (b := b) (by omega) (by omega) _ limit0 wb wp _ d1 (by rw [s1.1]; exact hd), pE2 nb hN hl (a := a) (b := b) (by omega) (by omega) _ limit0 wb wp _ d2 (by rw [s2.1, s1.1]; exact hd), if_neg hpi2]
  refine (pE3 nb hN hl (a := a) (b := b) (by omega) (by omega) _ limit0 wb wp _ d3 hd3 _ pivot hpv.1 hpv.2).trans ?_
  rw [if_pos hc', hx]
  exact ih1 hm2 (by rw [hs4]; exact b3) hB4 (by rw [hs4]; exact hd3) hll l k hl (by omega)
 case case5 d a b limit wb wp h12 hl0 d1 c d2 pivot hint pi hpi2 d3 hc mid d4 hx hg =>
  intro hab hb hB hd hlim l k hl hk
  have s1 : PermIn a b d d1 := step_break d hab hb _
  have b1 : b ≤ d1.size := by rw [s1.1]; exact hb
  have s2 : PermIn a b d1 d2 := step_reverse reverseRange_holds d1 hab b1 _
  have b2 : b ≤ d2.size := by rw [s2.1]; exact b1
  have B2 : Below ltInt a b d2 := (hB.perm hb s1).perm b1 s2
  have s3 := step_partial partialInsertionSort_holds hS d2 (a := a) (b := b) (by omega) b2 B2 ((wb && wp && decide (hint = Hint.increasing)) = true)
  have s3' : PermIn a b d2 d3 := s3.1
  have b3 : b ≤ d3.size := by rw [s3'.1]; exact b2
  have B3 : Below ltInt a b d3 := B2.perm b2 s3'
  have hc0 := choosePivot_holds ltInt d1 a b (by omega)
  have hpv : a ≤ pivot ∧ pivot < b := pivot_range hc0.1 hc0.2 _
  simp only [zq3, decide_eq_true_eq, Bool.not_eq_true'] at hc
  obtain ⟨g1, g2, _⟩ := round_eq hS (partitionEqual_holds ltInt) hc.1 hpv.1 hpv.2 b3 B3 hc.2 hx
  exact absurd ⟨g1, g2⟩ hg
 case case6 d a b limit0 wb wp h12 hl0 d1 limit c d2 pivot hint pi hpi2 d3 hc mid ap d4 hx hg hlt ih3 ih2 ih1 =>
  intro hab hb hB hd hlim l k hl hk
  obtain ⟨k, rfl⟩ : ∃ j, k = j + 1 := ⟨k - 1, by omega⟩
  have s1 : PermIn a b d d1 := step_break d hab hb _
  have b1 : b ≤ d1.size := by rw [s1.1]; exact hb
  have s2 : PermIn a b d1 d2 := step_reverse reverseRange_holds d1 hab b1 _
  have b2 : b ≤ d2.size := by rw [s2.1]; exact b1
  have B2 : Below ltInt a b d2 := (hB.perm hb s1).perm b1 s2
  have s3 := step_partial partialInsertionSort_holds hS d2 (a := a) (b := b) (by omega) b2 B2 ((wb && wp && decide (hint = Hint.increasing)) = true)
  have s3' : PermIn a b d2 d3 := s3.1
  have b3 : b ≤ d3.size := by rw [s3'.1]; exact b2
  have B3 : Below ltInt a b d3 := B2.perm b2 s3'
  have hc0 := choosePivot_holds ltInt d1 a b (by omega)
  have hpv : a ≤ pivot ∧ pivot < b := pivot_range hc0.1 hc0.2 _
  have hd3 : d3.size = N := by rw [s3'.1, s2.1, s1.1]; exact hd
  obtain ⟨g1, g2, hs4, hBa, hBr, hleft, _⟩ := round_part hS (partition_holds ltInt) hpv.1 hpv.2 b3 B3 hx
  have hll : limit < 1000 := by simp only [limit]; split <;> omega
  have hrec := ih3 g1 (by rw [hs4]; omega) hBa (by rw [hs4]; exact hd3) hll (ar (D.int .u32) d4) (N + 2) (by rw [ar_length, hs4]; exact hd3) (by omega)
  obtain ⟨l1, l2⟩ := pdq_sorts ltInt hS d4 a mid limit true true g1 (by rw [hs4]; omega) hBa
  obtain ⟨hBL, hfin⟩ := hleft _ l1 l2
  have hr : Cl ty tab 161 [.ov 51 nb (ar (D.int .u32) d4), .int .i64 a, .int .i64 mid, .int .i64 limit] = some [.ov 51 nb (ar (D.int .u32) (pdq ltInt d4 a mid limit true true))] := by
   refine s_slices_pdqsortOrdered (N + 2) nb _ _ _ _ ?_
   unfold slices_pdqsortOrdered
   exact hrec
  unfold iter
  rw [pE0 nb hN hl (a := a) (b := b) (by omega) (by omega) _ limit0 wb wp d hd hl0 hlim, pE1 nb hN hl (a := a) (b := b) (by omega) (by omega) _ limit0 wb wp _ d1 (by rw [s1.1]; exact hd), pE2 nb hN hl (a := a) (b := b) (by omega) (by omega) _ limit0 wb wp _ d2 (by rw [s2.1, s1.1]; exact hd), if_neg hpi2]
  refine (pE3 nb hN hl (a := a) (b := b) (by omega) (by omega) _ limit0 wb wp _ d3 hd3 _ pivot hpv.1 hpv.2).trans ?_
  rw [if_neg hc]
  refine (pE4L nb hN hl (a := a) (b := b) (by omega) (by omega) _ limit0 wb wp _ d3 hd3 limit pivot hpv.1 hpv.2 mid ap d4 _ hx g1 g2 hlt hr).trans ?_
  exact ih1 (by omega) (by rw [l1.1, hs4]; exact b3) hBL (by rw [l1.1, hs4]; exact hd3) hll l k hl (by omega)
 case case7 d a b limit0 wb wp h12 hl0 d1 limit c d2 pivot hint pi hpi2 d3 hc mid ap d4 hx hg hlt ih3 ih2 ih1 =>
  intro hab hb hB hd hlim l k hl hk
  obtain ⟨k, rfl⟩ : ∃ j, k = j + 1 := ⟨k - 1, by omega⟩
  have s1 : PermIn a b d d1 := step_break d hab hb _
  have b1 : b ≤ d1.size := by rw [s1.1]; exact hb
  have s2 : PermIn a b d1 d2 := step_reverse reverseRange_holds d1 hab b1 _
  have b2 : b ≤ d2.size := by rw [s2.1]; exact b1
  have B2 : Below ltInt a b d2 := (hB.perm hb s1).perm b1 s2
  have s3 := step_partial partialInsertionSort_holds hS d2 (a := a) (b := b) (by omega) b2 B2 ((wb && wp && decide (hint = Hint.increasing)) = true)
  have s3' : PermIn a b d2 d3 := s3.1
  have b3 : b ≤ d3.size := by rw [s3'.1]; exact b2
  have B3 : Below ltInt a b d3 := B2.perm b2 s3'
  have hc0 := choosePivot_holds ltInt d1 a b (by omega)
  have hpv : a ≤ pivot ∧ pivot < b := pivot_range hc0.1 hc0.2 _
  have hd3 : d3.size = N := by rw [s3'.1, s2.1, s1.1]; exact hd
  obtain ⟨g1, g2, hs4, hBa, hBr, _, hright⟩ := round_part hS (partition_holds ltInt) hpv.1 hpv.2 b3 B3 hx
  have hll : limit < 1000 := by simp only [limit]; split <;> omega
  have hrec := ih3 (by omega) (by rw [hs4]; exact b3) hBr (by rw [hs4]; exact hd3) hll (ar (D.int .u32) d4) (N + 2) (by rw [ar_length, hs4]; exact hd3) (by omega)
  obtain ⟨l1, l2⟩ := pdq_sorts ltInt hS d4 (mid + 1) b limit true true (by omega) (by rw [hs4]; exact b3) hBr
  obtain ⟨hBL, hfin⟩ := hright _ l1 l2
  have hr : Cl ty tab 161 [.ov 51 nb (ar (D.int .u32) d4), .int .i64 ((mid + 1 : Nat) : Int), .int .i64 b, .int .i64 limit] = some [.ov 51 nb (ar (D.int .u32) (pdq ltInt d4 (mid + 1) b limit true true))] := by
   refine s_slices_pdqsortOrdered (N + 2) nb _ _ _ _ ?_
   unfold slices_pdqsortOrdered
   exact hrec
  unfold iter
  rw [pE0 nb hN hl (a := a) (b := b) (by omega) (by omega) _ limit0 wb wp d hd hl0 hlim, pE1 nb hN hl (a := a) (b := b) (by omega) (by omega) _ limit0 wb wp _ d1 (by rw [s1.1]; exact hd), pE2 nb hN hl (a := a) (b := b) (by omega) (by omega) _ limit0 wb wp _ d2 (by rw [s2.1, s1.1]; exact hd), if_neg hpi2]
  refine (pE3 nb hN hl (a := a) (b := b) (by omega) (by omega) _ limit0 wb wp _ d3 hd3 _ pivot hpv.1 hpv.2).trans ?_
  rw [if_neg hc]
  refine (pE4R nb hN hl (a := a) (b := b) (by omega) (by omega) _ limit0 wb wp _ d3 hd3 limit pivot hpv.1 hpv.2 mid ap d4 _ hx g1 g2 hlt hr).trans ?_
  exact ih1 g1 (by rw [l1.1, hs4]; omega) hBL (by rw [l1.1, hs4]; exact hd3) hll l k hl (by omega)
 case case8 d a b limit wb wp h12 hl0 d1 c d2 pivot hint pi hpi2 d3 hc mid ap d4 hx hg =>
  intro hab hb hB hd hlim l k hl hk
  have s1 : PermIn a b d d1 := step_break d hab hb _
  have b1 : b ≤ d1.size := by rw [s1.1]; exact hb
  have s2 : PermIn a b d1 d2 := step_reverse reverseRange_holds d1 hab b1 _
  have b2 : b ≤ d2.size := by rw [s2.1]; exact b1
  have B2 : Below ltInt a b d2 := (hB.perm hb s1).perm b1 s2
  have s3 := step_partial partialInsertionSort_holds hS d2 (a := a) (b := b) (by omega) b2 B2 ((wb && wp && decide (hint = Hint.increasing)) = true)
  have s3' : PermIn a b d2 d3 := s3.1
  have b3 : b ≤ d3.size := by rw [s3'.1]; exact b2
  have B3 : Below ltInt a b d3 := B2.perm b2 s3'
  have hc0 := choosePivot_holds ltInt d1 a b (by omega)
  have hpv : a ≤ pivot ∧ pivot < b := pivot_range hc0.1 hc0.2 _
  obtain ⟨g1, g2, _⟩ := round_part hS (partition_holds ltInt) hpv.1 hpv.2 b3 B3 hx
  exact absurd ⟨g1, g2⟩ hg
end
theorem sort_ok (nb : Bool) (xs : List Int) (h : xs.length < 65536) : Cl ty tab 155 [.ov 51 nb (xs.map (D.int .u32))] = some [.ov 51 nb ((xs.mergeSort fun x y => decide (x ≤ y)).map (D.int .u32))] := by
 refine s_slices_Sort 0 nb _ ?_
 unfold slices_Sort
 have hw : IntKind.u64.wrap ((xs.length : Nat) : Int) = ((xs.length : Nat) : Int) := wrapU (by omega) (by omega)
 have l16 : bitsLen xs.length ≤ 16 := (bitsLen_le_iff _ 16).2 (by omega)
 have e := bits_ok xs.length h
 have hp : Cl ty tab 161 [.ov 51 nb (ar (D.int .u32) xs.toArray), .int .i64 ((0 : Nat) : Int), .int .i64 (xs.length : Nat), .int .i64 (bitsLen xs.length : Nat)] = some [.ov 51 nb (ar (D.int .u32) (pdq ltInt xs.toArray 0 xs.length (bitsLen xs.length) true true))] := by
  refine s_slices_pdqsortOrdered (xs.length + 2) nb _ _ _ _ ?_
  unfold slices_pdqsortOrdered
  exact pdqI_ok nb h xs.toArray 0 xs.length (bitsLen xs.length) true true (Nat.zero_le _) (by simp) (Or.inl rfl) (by simp) (by omega) _ _ (by simp [ar_length]) (by omega)
 rw [ar_of, show ((0 : Nat) : Int) = 0 from rfl] at hp
 have hs : (pdq ltInt xs.toArray 0 xs.length (bitsLen xs.length) true true).toList = xs.mergeSort fun x y => decide (x ≤ y) := sortInt xs
 have hr : ar (D.int .u32) (pdq ltInt xs.toArray 0 xs.length (bitsLen xs.length) true true) = (xs.mergeSort fun x y => decide (x ≤ y)).map (D.int .u32) := by rw [ar, hs]
 rw [hr] at hp
 simp (disch := omega) only [gds, hw, e, hp]
end Go.Proofs.YtapfhcnigmighaaGreat.So
