import Derived.Test.YtapfhcnigmighaaGreatAspa
set_option linter.unusedVariables false
set_option linter.unusedSimpArgs false
namespace Go.Proofs.YtapfhcnigmighaaGreat.Own
open Go Go.Proofs.YtapfhcnigmighaaGreat.GD
noncomputable def goodP (d : D) : Bool := decide (chkA (custP d) (d.cell 1).els = 0)
def ordP (a b : D) : Int := sgn (custP a) (custP b)
theorem ltP_ord (a b : D) : ltP a b = decide (ordP a b < 0) := by unfold ltP ordP; simp only [sgn_lt]
structure Pn (d : D) : Prop where
 pg : Pg d
 cu : 0 ≤ custP d
 len : (d.cell 1).els.length ≤ 80
 fst : 0 ≤ at' (d.cell 1).els 0
theorem pn_of {d : D} (h : Pg d) (hc : 0 ≤ custP d) (hl : (d.cell 1).els.length ≤ 80) : Pn d := ⟨h, hc, hl, by
 obtain ⟨L, e, hL⟩ := h.els
 unfold at'
 rw [e]
 cases L with
 | nil => simp [D.cell, D.i]
 | cons x t => have := hL x (by simp); simpa using this.1⟩
theorem byPath_ok (a b : D) (ha : Pg a) (hb : Pg b) : Cl ty tab 78 [a, b] = some [.int .i64 (ordP a b)] := by
 have := s_diff_byPath 0 (custP a) (a.cell 1).nb (a.cell 1).els (custP b) (b.cell 1).nb (b.cell 1).els (r := [.int .i64 (ordP a b)]) ?_
 · unfold custP at this; rwa [ha.eta, hb.eta] at this
 unfold diff_byPath ordP
 simp (disch := omega) only [gds, cmp_u32]
theorem goodPath_ok (d : D) (h : Pn d) : Cl ty tab 79 [d] = some [.bool (goodP d)] := by
 have := s_diff_goodPath 0 (custP d) (d.cell 1).nb (d.cell 1).els (r := [.bool (goodP d)]) ?_
 · unfold custP at this; rwa [h.pg.eta] at this
 unfold diff_goodPath goodP
 simp (disch := omega) only [gds, aspaCheck_ok (custP d) (d.cell 1).nb (d.cell 1).els h.cu h.len h.fst]
theorem risingO_ok (n : Bool) (l : List D) (hl : ∀ d, d ∈ l → Og d) (hn : l.length ≤ 9223372036854775807) : Cl ty tab 74 [.sl 58 n l, .fn 75 [], .fn 76 []] = some [.bool (risF goodO ltO l)] := by
 obtain ⟨k, hk⟩ := rounds
 refine s_diff_rising_74 k _ _ ?_
 unfold diff_rising_74
 have hE : ∀ d, d ∈ l → D.agg (etaCells ks1 d 0) = d := fun d hd => (hl d hd).eta
 have := ris_loop (F := diff_rising_74.b0 (Cl ty tab) k l) l goodO ltO (fun i => [.int .i64 i]) (some [.bool false]) (some [.bool true]) (fun i hi again => ?_) (fun again => ?_) k (by omega)
 · simp only [Int.natCast_zero] at this
   rw [this]
   cases risF goodO ltO l <;> rfl
 · unfold diff_rising_74.b0
   have e0 := hE l[i] (List.getElem_mem hi)
   have g0 := goodOrigin_ok l[i] (hl _ (List.getElem_mem hi))
   cases hg : goodO l[i]
   · simp (disch := omega) only [gds, getD_get, e0, g0, hg, false_and]
   · by_cases h0 : i = 0
     · subst h0
       simp (disch := omega) only [gds, getD_get, e0, g0, hg, true_and, true_or, Int.natCast_zero, Int.toNat_zero, Int.zero_add, Int.natCast_one]
     · have hi1 : i - 1 < l.length := by omega
       have e1 := hE l[i - 1] (List.getElem_mem hi1)
       have o1 := byOrigin_ok l[i - 1] l[i] (hl _ (List.getElem_mem hi1)) (hl _ (List.getElem_mem hi))
       have el : ltO l[i - 1] l[i] = decide (ordO l[i - 1] l[i] < 0) := rfl
       by_cases hlt : ordO l[i - 1] l[i] < 0
       · simp (disch := omega) only [gds, getD_get, e0, e1, o1, g0, hg, true_and, false_or, h0, el, hlt, Int.natCast_add, Int.natCast_one]
       · simp (disch := omega) only [gds, getD_get, e0, e1, o1, g0, hg, true_and, false_or, h0, el, hlt, Int.natCast_add, Int.natCast_one]
 · unfold diff_rising_74.b0
   simp (disch := omega) only [gds]
theorem risingK_ok (n : Bool) (l : List D) (hl : ∀ d, d ∈ l → Kg d) (hn : l.length ≤ 9223372036854775807) : Cl ty tab 80 [.sl 64 n l, .fn 81 [], .fn 82 []] = some [.bool (risF goodK ltK l)] := by
 obtain ⟨k, hk⟩ := rounds
 refine s_diff_rising_80 k _ _ ?_
 unfold diff_rising_80
 have hE : ∀ d, d ∈ l → D.agg (etaCells ks2 d 0) = d := fun d hd => (hl d hd).eta
 have := ris_loop (F := diff_rising_80.b0 (Cl ty tab) k l) l goodK ltK (fun i => [.int .i64 i]) (some [.bool false]) (some [.bool true]) (fun i hi again => ?_) (fun again => ?_) k (by omega)
 · simp only [Int.natCast_zero] at this
   rw [this]
   cases risF goodK ltK l <;> rfl
 · unfold diff_rising_80.b0
   have e0 := hE l[i] (List.getElem_mem hi)
   have g0 := goodKey_ok l[i] (hl _ (List.getElem_mem hi))
   cases hg : goodK l[i]
   · simp (disch := omega) only [gds, getD_get, e0, g0, hg, false_and]
   · by_cases h0 : i = 0
     · subst h0
       simp (disch := omega) only [gds, getD_get, e0, g0, hg, true_and, true_or, Int.natCast_zero, Int.toNat_zero, Int.zero_add, Int.natCast_one]
     · have hi1 : i - 1 < l.length := by omega
       have e1 := hE l[i - 1] (List.getElem_mem hi1)
       have o1 := byKey_ok l[i - 1] l[i] (hl _ (List.getElem_mem hi1)) (hl _ (List.getElem_mem hi))
       have el : ltK l[i - 1] l[i] = decide (ordK l[i - 1] l[i] < 0) := rfl
       by_cases hlt : ordK l[i - 1] l[i] < 0
       · simp (disch := omega) only [gds, getD_get, e0, e1, o1, g0, hg, true_and, false_or, h0, el, hlt, Int.natCast_add, Int.natCast_one]
       · simp (disch := omega) only [gds, getD_get, e0, e1, o1, g0, hg, true_and, false_or, h0, el, hlt, Int.natCast_add, Int.natCast_one]
 · unfold diff_rising_80.b0
   simp (disch := omega) only [gds]
theorem risingP_ok (n : Bool) (l : List D) (hl : ∀ d, d ∈ l → Pn d) (hn : l.length ≤ 9223372036854775807) : Cl ty tab 77 [.sl 84 n l, .fn 78 [], .fn 79 []] = some [.bool (risF goodP ltP l)] := by
 obtain ⟨k, hk⟩ := rounds
 refine s_diff_rising_77 k _ _ ?_
 unfold diff_rising_77
 have hE : ∀ d, d ∈ l → D.agg [.int .u32 (d.cell 0).i, .sl 51 (d.cell 1).nb (d.cell 1).els] = d := fun d hd => (hl d hd).pg.eta
 have := ris_loop (F := diff_rising_77.b0 (Cl ty tab) k l) l goodP ltP (fun i => [.int .i64 i]) (some [.bool false]) (some [.bool true]) (fun i hi again => ?_) (fun again => ?_) k (by omega)
 · simp only [Int.natCast_zero] at this
   rw [this]
   cases risF goodP ltP l <;> rfl
 · unfold diff_rising_77.b0
   have e0 := hE l[i] (List.getElem_mem hi)
   have g0 := goodPath_ok l[i] (hl _ (List.getElem_mem hi))
   cases hg : goodP l[i]
   · simp (disch := omega) only [gds, getD_get, e0, g0, hg, false_and]
   · by_cases h0 : i = 0
     · subst h0
       simp (disch := omega) only [gds, getD_get, e0, g0, hg, true_and, true_or, Int.natCast_zero, Int.toNat_zero, Int.zero_add, Int.natCast_one]
     · have hi1 : i - 1 < l.length := by omega
       have e1 := hE l[i - 1] (List.getElem_mem hi1)
       have o1 := byPath_ok l[i - 1] l[i] (hl _ (List.getElem_mem hi1)).pg (hl _ (List.getElem_mem hi)).pg
       have el : ltP l[i - 1] l[i] = decide (ordP l[i - 1] l[i] < 0) := ltP_ord _ _
       by_cases hlt : ordP l[i - 1] l[i] < 0
       · simp (disch := omega) only [gds, getD_get, e0, e1, o1, g0, hg, true_and, false_or, h0, el, hlt, Int.natCast_add, Int.natCast_one]
       · simp (disch := omega) only [gds, getD_get, e0, e1, o1, g0, hg, true_and, false_or, h0, el, hlt, Int.natCast_add, Int.natCast_one]
 · unfold diff_rising_77.b0
   simp (disch := omega) only [gds]
structure Pay (o p q : List D) : Prop where
 ho : ∀ d, d ∈ o → Og d
 hp : ∀ d, d ∈ p → Pg d ∧ 0 ≤ custP d
 hq : ∀ d, d ∈ q → Kg d
 no : o.length ≤ 9223372036854775807
 np : p.length ≤ 9223372036854775807
 nq : q.length ≤ 9223372036854775807
def longP (p : List D) : Bool := p.any fun d => decide (50 < (d.cell 1).els.length)
noncomputable def payC (o p q : List D) : Int :=
 if 1000 < o.length ∨ 300 < p.length ∨ 100 < q.length ∨ longP p = true then 4 else if risF goodO ltO o = true ∧ risF goodP ltP p = true ∧ risF goodK ltK q = true then 0 else 8
def idxL : List D → Nat → Int
 | [], _ => -1
 | d :: t, i => if 50 < (d.cell 1).els.length then i else idxL t (i + 1)
theorem idxL_long : ∀ (l : List D) (i : Nat), decide (0 ≤ idxL l i) = longP l
 | [], i => rfl
 | d :: t, i => by
  simp only [idxL, longP, List.any_cons]
  by_cases h : 50 < (d.cell 1).els.length
  · simp [h]
  · have := idxL_long t (i + 1)
    simp only [longP] at this
    simp [h, this]
theorem hasLong_ok (n : Bool) (l : List D) (hl : ∀ d, d ∈ l → Pg d) (hn : l.length ≤ 9223372036854775807) : Cl ty tab 72 [.sl 84 n l, .fn 73 []] = some [.bool (longP l)] := by
 obtain ⟨k, hk⟩ := rounds
 have h1 : Cl ty tab 132 [.sl 84 n l, .fn 73 []] = some [.int .i64 (idxL l 0)] := by
  refine s_slices_IndexFunc_132_v2 k _ _ ?_
  unfold slices_IndexFunc_132_v2
  have := iter_ix (F := slices_IndexFunc_132_v2.b0 (Cl ty tab) k l) l.length (fun i => [.int .i64 i]) (fun i => some [.int .i64 (idxL (l.drop i) i)]) (fun i hi again ha => ?_) (fun again => ?_) k (by omega) 0 (by omega)
  · exact this
  · unfold slices_IndexFunc_132_v2.b0
    rw [List.drop_eq_getElem_cons hi]
    have e0 := (hl l[i] (List.getElem_mem hi)).eta
    have c0 : Cl ty tab 73 [l[i]] = some [.bool (decide (50 < (l[i].cell 1).els.length))] := by
     have := s_diff_Check_1 0 (l[i].cell 0).i (l[i].cell 1).nb (l[i].cell 1).els (r := [.bool (decide (50 < (l[i].cell 1).els.length))]) ?_
     · rwa [e0] at this
     unfold diff_Check_1
     congr 3
     simp only [decide_eq_decide]
     omega
    unfold idxL
    by_cases h : 50 < (l[i].cell 1).els.length
    · simp (disch := omega) only [gds, getD_get, e0, c0, h]
    · simp (disch := omega) only [gds, getD_get, e0, c0, h, Int.natCast_add, Int.natCast_one] at ha ⊢
      exact ha
  · unfold slices_IndexFunc_132_v2.b0
    rw [List.drop_length]
    simp (disch := omega) only [gds, idxL]
 refine s_slices_ContainsFunc_72 0 _ _ ?_
 unfold slices_ContainsFunc_72
 simp (disch := omega) only [gds, h1, idxL_long]
theorem long_len {p : List D} (h : longP p = false) : ∀ d, d ∈ p → (d.cell 1).els.length ≤ 50 := fun d hd => by
 unfold longP at h
 rw [List.any_eq_false] at h
 have := h d hd
 simp at this
 omega
theorem diffCheck_ok (n m t : Bool) (o p q : List D) (h : Pay o p q) : Cl ty tab 29 [.agg [.sl 58 n o, .sl 84 m p, .sl 64 t q]] = some [.int .i64 (payC o p q)] := by
 refine s_diff_Check 0 _ _ _ _ _ _ ?_
 unfold diff_Check payC
 by_cases h1 : 1000 < o.length
 · simp (disch := omega) only [gds, h1, true_or]
 by_cases h2 : 300 < p.length
 · simp (disch := omega) only [gds, h1, h2, true_or, or_true]
 by_cases h3 : 100 < q.length
 · simp (disch := omega) only [gds, h1, h2, h3, true_or, or_true]
 have hL := hasLong_ok m p (fun d hd => (h.hp d hd).1) h.np
 cases h4 : longP p
 case true => simp (disch := omega) only [gds, h1, h2, h3, hL, h4, or_true]
 have rO := risingO_ok n o h.ho h.no
 have rP := risingP_ok m p (fun d hd => pn_of (h.hp d hd).1 (h.hp d hd).2 (by have := long_len h4 d hd; omega)) h.np
 have rK := risingK_ok t q h.hq h.nq
 cases h5 : risF goodO ltO o
 case false => simp (disch := omega) only [gds, h1, h2, h3, hL, h4, or_self, rO, h5, false_and]
 cases h6 : risF goodP ltP p
 case false => simp (disch := omega) only [gds, h1, h2, h3, hL, h4, or_self, rO, rP, h5, h6, false_and, and_false]
 cases h7 : risF goodK ltK q
 case false => simp (disch := omega) only [gds, h1, h2, h3, hL, h4, or_self, rO, rP, rK, h5, h6, h7, false_and, and_false]
 simp (disch := omega) only [gds, h1, h2, h3, hL, h4, or_self, rO, rP, rK, h5, h6, h7, and_self]
end Go.Proofs.YtapfhcnigmighaaGreat.Own
