import Derived.Test.YtapfhcnigmighaaGreatKeep
set_option linter.unusedVariables false
set_option linter.unusedSimpArgs false
namespace Go.Proofs.YtapfhcnigmighaaGreat.Own
open Go Go.Proofs.YtapfhcnigmighaaGreat.GD
def covN (f : Int) (h l : Nat) (n : Int) (f2 : Int) (h2 l2 : Nat) (n2 : Int) : Bool :=
 decide (checkP f h l n = 0 ∧ checkP f2 h2 l2 n2 = 0 ∧ f = f2 ∧ n ≤ n2 ∧ cutA f h2 l2 (widthF f - n.toNat) = (h, l))
theorem checkP_ok {f : Int} {h l : Nat} {n : Int} (hp : checkP f h l n = 0) : (f = 4 ∨ f = 6) ∧ addrOk f h l = true ∧ 0 ≤ n ∧ n ≤ (widthF f : Nat) := by
 unfold checkP at hp
 rcases widthF_cases f with h0 | h0
 · rw [if_pos h0] at hp; cases hp
 · have hw : ¬ widthF f = 0 := by rcases h0 with ⟨_, h⟩ | ⟨_, h⟩ <;> omega
   rw [if_neg hw] at hp
   split at hp
   · rename_i hc
     exact ⟨by rcases h0 with ⟨h, _⟩ | ⟨h, _⟩; exact .inl h; exact .inr h, hc.1, hc.2.1, hc.2.2.1⟩
   · cases hp
theorem covers_n (f : Int) (h l : Nat) (n : Int) (f2 : Int) (h2 l2 : Nat) (n2 : Int) (hr : In64 h l) (hr2 : In64 h2 l2) : Cl ty tab 28 [P4 f h l n, P4 f2 h2 l2 n2] = some [.bool (covN f h l n f2 h2 l2 n2)] := by
 refine s_number_Covers 0 _ _ _ _ _ _ _ _ ?_
 unfold number_Covers covN
 have c1 := check_prefix_ok f h l n hr
 have c2 := check_prefix_ok f2 h2 l2 n2 hr2
 by_cases h1 : checkP f h l n = 0
 · by_cases h3 : checkP f2 h2 l2 n2 = 0
   · by_cases h4 : f = f2
     · subst h4
       by_cases h5 : n2 < n
       · have : ¬ n ≤ n2 := by omega
         simp (disch := omega) only [gds, c1, c2, h1, h3, h5, this, true_and, false_and]
       · obtain ⟨g1, g2, g3, g4⟩ := checkP_ok h1
         obtain ⟨g5, g6, g7, g8⟩ := checkP_ok h3
         obtain ⟨mh, ml, hm, hmask, hcut⟩ := mask_ok f n g1 g3 g4
         have hand := and_ok h2 l2 mh ml hr2 hm
         have hc := hcut h2 l2 hr2 g6
         have h6 : n ≤ n2 := by omega
         rw [← hc]
         clear hcut hc
         simp (disch := omega) only [gds, c1, c2, h1, h3, h5, h6, hmask, hand, true_and]
         by_cases q1 : h2 &&& mh = h
         · by_cases q2 : l2 &&& ml = l
           · have e1 : ((h2 &&& mh : Nat) : Int) = h := by rw [q1]
             have e2 : ((l2 &&& ml : Nat) : Int) = l := by rw [q2]
             rw [e1, e2]
             simp [q1, q2]
           · have e2 : ¬ ((l2 &&& ml : Nat) : Int) = l := by omega
             simp [q2, e2]
         · have e1 : ¬ ((h2 &&& mh : Nat) : Int) = h := by omega
           simp [q1, e1]
     · simp (disch := omega) only [gds, c1, c2, h1, h3, h4, false_and, true_and]
   · simp (disch := omega) only [gds, c1, c2, h1, h3, false_and, true_and]
 · simp (disch := omega) only [gds, c1, h1, false_and]
def covO (f d : D) : Bool := covN (f.cell 2).i (f.cell 3).i.toNat (f.cell 4).i.toNat (f.cell 5).i (d.cell 1).i (d.cell 2).i.toNat (d.cell 3).i.toNat (d.cell 4).i
def takesO (f d : D) : Bool := (!(f.cell 0).b || covO f d) && (!(f.cell 1).b || (f.cell 6).i == (d.cell 0).i)
def takesK (f d : D) : Bool := (!(f.cell 1).b || eqCells (etaCells ks6 f 3) ((kKsE d 0).drop 1)) && (!(f.cell 0).b || (f.cell 2).i == (d.cell 0).i)
theorem covers_ok (f d : D) (hf : Fg f) (hd : Og d) : Cl ty tab 28 [.agg [.int .u8 (f.cell 2).i, .int .u64 (f.cell 3).i, .int .u64 (f.cell 4).i, .int .i64 (f.cell 5).i], .agg [.int .u8 (d.cell 1).i, .int .u64 (d.cell 2).i, .int .u64 (d.cell 3).i, .int .i64 (d.cell 4).i]] = some [.bool (covO f d)] := by
 have h1 := hf.hi
 have h2 := hf.lo
 have h3 := hd.hi
 have h4 := hd.lo
 have := covers_n (f.cell 2).i (f.cell 3).i.toNat (f.cell 4).i.toNat (f.cell 5).i (d.cell 1).i (d.cell 2).i.toNat (d.cell 3).i.toNat (d.cell 4).i ⟨by omega, by omega⟩ ⟨by omega, by omega⟩
 simp only [P4, Int.toNat_of_nonneg h1.1, Int.toNat_of_nonneg h2.1, Int.toNat_of_nonneg h3.1, Int.toNat_of_nonneg h4.1] at this
 exact this
theorem takesO_ok (f d : D) (hf : Fg f) (hd : Og d) : Cl ty tab 57 [f, .rp [.int .u32 (d.cell 0).i, .int .u8 (d.cell 1).i, .int .u64 (d.cell 2).i, .int .u64 (d.cell 3).i, .int .i64 (d.cell 4).i, .int .i64 (d.cell 5).i] 0] = some [.bool (takesO f d)] := by
 have := s_local_Filter_1_1 0 f (d.cell 0).i (d.cell 1).i (d.cell 2).i (d.cell 3).i (d.cell 4).i (d.cell 5).i (r := [.bool (takesO f d)]) ?_
 · rwa [hf.eta] at this
 unfold local_Filter_1_1 takesO
 have hc := covers_ok f d hf hd
 cases h0 : (f.cell 0).b <;> cases h1 : (f.cell 1).b <;> cases h2 : covO f d <;> simp (disch := omega) only [gds, h0, h1, h2, hc] <;> rfl
theorem anyO_ok (n : Bool) (l : List D) (d : D) (hl : ∀ f, f ∈ l → Fg f) (hn : l.length ≤ 60000) (hd : Og d) : Cl ty tab 56 [.sl 70 n l, .fn 57 [.rp [.int .u32 (d.cell 0).i, .int .u8 (d.cell 1).i, .int .u64 (d.cell 2).i, .int .u64 (d.cell 3).i, .int .i64 (d.cell 4).i, .int .i64 (d.cell 5).i] 0]] = some [.bool (l.any fun f => takesO f d)] := by
 have hix : Cl ty tab 118 [.sl 70 n l, .fn 57 [.rp [.int .u32 (d.cell 0).i, .int .u8 (d.cell 1).i, .int .u64 (d.cell 2).i, .int .u64 (d.cell 3).i, .int .i64 (d.cell 4).i, .int .i64 (d.cell 5).i] 0]] = some [.int .i64 (idxT (fun f => takesO f d) l 0)] := by
  refine s_slices_IndexFunc_118 60001 n l _ _ _ _ _ _ ?_
  unfold slices_IndexFunc_118
  have := iter_ix (R := List D) (F := slices_IndexFunc_118.b0 (Cl ty tab) 60001 l (d.cell 0).i (d.cell 1).i (d.cell 2).i (d.cell 3).i (d.cell 4).i (d.cell 5).i) l.length (fun i => [.int .i64 i]) (fun i => some [.int .i64 (idxT (fun f => takesO f d) (l.drop i) i)]) (fun i hi ag ha => ?_) (fun ag => ?_) 60001 (by omega) 0 (by omega)
  · simpa using this
  · have hf := hl _ (mem_getD hi)
    have e := hf.eta
    have e2 := takesO_ok _ d hf hd
    rw [List.drop_eq_getElem_cons hi]
    have e3 : l.getD i .undef = l[i] := by simp [zq1, hi]
    rw [e3] at e e2
    rw [show ((i + 1 : Nat) : Int) = (i : Int) + 1 by omega] at ha
    unfold slices_IndexFunc_118.b0 idxT
    cases hc : takesO l[i] d
    · rw [if_neg (show ¬ false = true by simp), ← ha]
      simp (disch := omega) only [gds, e3, e, e2, hc]
    · rw [if_pos (show true = true from rfl)]
      simp (disch := omega) only [gds, e3, e, e2, hc]
  · unfold slices_IndexFunc_118.b0
    rw [List.drop_length]
    simp (disch := omega) only [gds]
    rfl
 refine s_slices_ContainsFunc_56 0 n l _ _ _ _ _ _ ?_
 unfold slices_ContainsFunc_56
 simp (disch := omega) only [gds, hix, idxT_ge]
theorem filterO_ok (n1 n2 n3 n4 n5 n6 : Bool) (l1 l2 l3 l4 l5 l6 : List D) (d : D) (hl : ∀ f, f ∈ l1 → Fg f) (hn : l1.length ≤ 60000) (hd : Og d) : Cl ty tab 55 [d, D.rp [D.sl 70 n1 l1, D.sl 73 n2 l2, D.sl 51 n3 l3, D.sl 58 n4 l4, D.sl 84 n5 l5, D.sl 64 n6 l6] 0] = some [.bool (l1.any fun f => takesO f d)] := by
 have := s_local_Filter_1 0 d n1 l1 n2 l2 n3 l3 n4 l4 n5 l5 n6 l6 (r := [.bool (l1.any fun f => takesO f d)]) ?_
 · rwa [hd.eta] at this
 unfold local_Filter_1
 simp (disch := omega) only [gds, anyO_ok n1 l1 d hl hn hd]
theorem takesK_ok (f d : D) (hf : Yg f) (hd : Kg d) : Cl ty tab 61 [f, .rp (kKsE d 0) 0] = some [.bool (takesK f d)] := by
 have := s_local_Filter_2_1 0 f (d.cell 0).i (d.cell 1).i (d.cell 2).i (d.cell 3).i (d.cell 4).i (d.cell 5).i (d.cell 6).i (d.cell 7).i (d.cell 8).i (d.cell 9).i (d.cell 10).i (d.cell 11).i (d.cell 12).i (d.cell 13).i (d.cell 14).i (d.cell 15).i (d.cell 16).i (d.cell 17).i (r := [.bool (takesK f d)]) ?_
 · have e := hf.eta
   rw [show D.agg (etaCells ks4 f 0) = f from e] at this
   exact this
 unfold local_Filter_2_1 takesK
 rw [show (kKsE d 0).drop 1 = [(D.int .u8 (d.cell 1).i), (D.int .u8 (d.cell 2).i), (D.int .u8 (d.cell 3).i), (D.int .u8 (d.cell 4).i), (D.int .u8 (d.cell 5).i), (D.int .u8 (d.cell 6).i), (D.int .u8 (d.cell 7).i), (D.int .u8 (d.cell 8).i), (D.int .u8 (d.cell 9).i), (D.int .u8 (d.cell 10).i), (D.int .u8 (d.cell 11).i), (D.int .u8 (d.cell 12).i), (D.int .u8 (d.cell 13).i), (D.int .u8 (d.cell 14).i), (D.int .u8 (d.cell 15).i), (D.int .u8 (d.cell 16).i), (D.int .i64 (d.cell 17).i)] from rfl]
 generalize eqCells _ _ = c
 cases h0 : (f.cell 0).b <;> cases h1 : (f.cell 1).b <;> cases c <;> simp [h0, h1]
theorem anyK_ok (n : Bool) (l : List D) (d : D) (hl : ∀ f, f ∈ l → Yg f) (hn : l.length ≤ 60000) (hd : Kg d) : Cl ty tab 60 [.sl 73 n l, .fn 61 [.rp (kKsE d 0) 0]] = some [.bool (l.any fun f => takesK f d)] := by
 have hix : Cl ty tab 120 [.sl 73 n l, .fn 61 [.rp (kKsE d 0) 0]] = some [.int .i64 (idxT (fun f => takesK f d) l 0)] := by
  refine s_slices_IndexFunc_120 60001 n l (d.cell 0).i (d.cell 1).i (d.cell 2).i (d.cell 3).i (d.cell 4).i (d.cell 5).i (d.cell 6).i (d.cell 7).i (d.cell 8).i (d.cell 9).i (d.cell 10).i (d.cell 11).i (d.cell 12).i (d.cell 13).i (d.cell 14).i (d.cell 15).i (d.cell 16).i (d.cell 17).i ?_
  unfold slices_IndexFunc_120
  have := iter_ix (R := List D) (F := slices_IndexFunc_120.b0 (Cl ty tab) 60001 l (d.cell 0).i (d.cell 1).i (d.cell 2).i (d.cell 3).i (d.cell 4).i (d.cell 5).i (d.cell 6).i (d.cell 7).i (d.cell 8).i (d.cell 9).i (d.cell 10).i (d.cell 11).i (d.cell 12).i (d.cell 13).i (d.cell 14).i (d.cell 15).i (d.cell 16).i (d.cell 17).i) l.length (fun i => [.int .i64 i]) (fun i => some [.int .i64 (idxT (fun f => takesK f d) (l.drop i) i)]) (fun i hi ag ha => ?_) (fun ag => ?_) 60001 (by omega) 0 (by omega)
  · simpa using this
  · have hf := hl _ (mem_getD hi)
    have e : D.agg (etaCells ks4 (l.getD i .undef) 0) = l.getD i .undef := hf.eta
    have e2 : Cl ty tab 61 [l.getD i .undef, .rp [(D.int .u32 (d.cell 0).i), (D.int .u8 (d.cell 1).i), (D.int .u8 (d.cell 2).i), (D.int .u8 (d.cell 3).i), (D.int .u8 (d.cell 4).i), (D.int .u8 (d.cell 5).i), (D.int .u8 (d.cell 6).i), (D.int .u8 (d.cell 7).i), (D.int .u8 (d.cell 8).i), (D.int .u8 (d.cell 9).i), (D.int .u8 (d.cell 10).i), (D.int .u8 (d.cell 11).i), (D.int .u8 (d.cell 12).i), (D.int .u8 (d.cell 13).i), (D.int .u8 (d.cell 14).i), (D.int .u8 (d.cell 15).i), (D.int .u8 (d.cell 16).i), (D.int .i64 (d.cell 17).i)] 0] = some [.bool (takesK (l.getD i .undef) d)] := takesK_ok _ d hf hd
    rw [List.drop_eq_getElem_cons hi]
    have e3 : l.getD i .undef = l[i] := by simp [zq1, hi]
    rw [e3] at e e2
    rw [show ((i + 1 : Nat) : Int) = (i : Int) + 1 by omega] at ha
    unfold slices_IndexFunc_120.b0 idxT
    cases hc : takesK l[i] d
    · rw [if_neg (show ¬ false = true by simp), ← ha]
      simp (disch := omega) only [gds, e3, e, e2, hc]
    · rw [if_pos (show true = true from rfl)]
      simp (disch := omega) only [gds, e3, e, e2, hc]
  · unfold slices_IndexFunc_120.b0
    rw [List.drop_length]
    simp (disch := omega) only [gds]
    rfl
 refine s_slices_ContainsFunc_60 0 n l (d.cell 0).i (d.cell 1).i (d.cell 2).i (d.cell 3).i (d.cell 4).i (d.cell 5).i (d.cell 6).i (d.cell 7).i (d.cell 8).i (d.cell 9).i (d.cell 10).i (d.cell 11).i (d.cell 12).i (d.cell 13).i (d.cell 14).i (d.cell 15).i (d.cell 16).i (d.cell 17).i ?_
 unfold slices_ContainsFunc_60
 have hix' : Cl ty tab 120 [.sl 73 n l, .fn 61 [.rp [(D.int .u32 (d.cell 0).i), (D.int .u8 (d.cell 1).i), (D.int .u8 (d.cell 2).i), (D.int .u8 (d.cell 3).i), (D.int .u8 (d.cell 4).i), (D.int .u8 (d.cell 5).i), (D.int .u8 (d.cell 6).i), (D.int .u8 (d.cell 7).i), (D.int .u8 (d.cell 8).i), (D.int .u8 (d.cell 9).i), (D.int .u8 (d.cell 10).i), (D.int .u8 (d.cell 11).i), (D.int .u8 (d.cell 12).i), (D.int .u8 (d.cell 13).i), (D.int .u8 (d.cell 14).i), (D.int .u8 (d.cell 15).i), (D.int .u8 (d.cell 16).i), (D.int .i64 (d.cell 17).i)] 0]] = _ := hix
 simp (disch := omega) only [gds, hix', idxT_ge]
theorem filterK_ok (n1 n2 n3 n4 n5 n6 : Bool) (l1 l2 l3 l4 l5 l6 : List D) (d : D) (hl : ∀ f, f ∈ l2 → Yg f) (hn : l2.length ≤ 60000) (hd : Kg d) : Cl ty tab 59 [d, D.rp [D.sl 70 n1 l1, D.sl 73 n2 l2, D.sl 51 n3 l3, D.sl 58 n4 l4, D.sl 84 n5 l5, D.sl 64 n6 l6] 0] = some [.bool (l2.any fun f => takesK f d)] := by
 have := s_local_Filter_2 0 d n1 l1 n2 l2 n3 l3 n4 l4 n5 l5 n6 l6 (r := [.bool (l2.any fun f => takesK f d)]) ?_
 · have e : D.agg (etaCells ks2 d 0) = d := hd.eta
   rwa [e] at this
 unfold local_Filter_2
 have h : Cl ty tab 60 [.sl 73 n2 l2, .fn 61 [.rp [(D.int .u32 (d.cell 0).i), (D.int .u8 (d.cell 1).i), (D.int .u8 (d.cell 2).i), (D.int .u8 (d.cell 3).i), (D.int .u8 (d.cell 4).i), (D.int .u8 (d.cell 5).i), (D.int .u8 (d.cell 6).i), (D.int .u8 (d.cell 7).i), (D.int .u8 (d.cell 8).i), (D.int .u8 (d.cell 9).i), (D.int .u8 (d.cell 10).i), (D.int .u8 (d.cell 11).i), (D.int .u8 (d.cell 12).i), (D.int .u8 (d.cell 13).i), (D.int .u8 (d.cell 14).i), (D.int .u8 (d.cell 15).i), (D.int .u8 (d.cell 16).i), (D.int .i64 (d.cell 17).i)] 0]] = _ := anyK_ok n2 l2 d hl hn hd
 simp (disch := omega) only [gds, h]
theorem filterP_ok (n1 n2 n3 n4 n5 n6 : Bool) (l1 l2 l3 l4 l5 l6 : List D) (d : D) (hn : l3.length ≤ 60000) (hd : Pg d) : Cl ty tab 63 [d, D.rp [D.sl 70 n1 l1, D.sl 73 n2 l2, D.sl 51 n3 l3, D.sl 58 n4 l4, D.sl 84 n5 l5, D.sl 64 n6 l6] 0] = some [.bool (decide (0 ≤ idx (d.cell 0).i l3 0))] := by
 have := s_local_Filter_3 0 (d.cell 0).i (d.cell 1).nb (d.cell 1).els n1 l1 n2 l2 n3 l3 n4 l4 n5 l5 n6 l6 (r := [.bool (decide (0 ≤ idx (d.cell 0).i l3 0))]) ?_
 · rwa [hd.eta] at this
 unfold local_Filter_3
 have h := containsN_ok n3 l3 (d.cell 0).i hn
 simp (disch := omega) only [gds, h]
end Go.Proofs.YtapfhcnigmighaaGreat.Own
