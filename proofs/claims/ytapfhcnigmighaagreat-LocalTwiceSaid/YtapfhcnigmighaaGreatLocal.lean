import Derived.Test.YtapfhcnigmighaaGreatDiff4
set_option linter.unusedVariables false
set_option linter.unusedSimpArgs false
namespace Go.Proofs.YtapfhcnigmighaaGreat.Own
open Go Go.Proofs.YtapfhcnigmighaaGreat.GD
def bI (b : Bool) : Int := if b = true then 1 else 0
theorem truth_ok (a b : Bool) : Cl ty tab 88 [.bool a, .bool b] = some [.int .i64 (sgn (bI a) (bI b))] := by
 refine s_local_truth 0 _ _ ?_
 unfold local_truth
 cases a <;> cases b <;> rfl
abbrev fKs : List Sk := [.bool, .bool, .int .u8, .int .u64, .int .u64, .int .i64, .int .u32]
structure Fg (d : D) : Prop where
 fit : Vk.fits ⟨true, fKs⟩ d = true
 fam : 0 ≤ (d.cell 2).i ∧ (d.cell 2).i < 256
 hi : 0 ≤ (d.cell 3).i ∧ (d.cell 3).i < 18446744073709551616
 lo : 0 ≤ (d.cell 4).i ∧ (d.cell 4).i < 18446744073709551616
 as : 0 ≤ (d.cell 6).i ∧ (d.cell 6).i < 4294967296
theorem Fg.eta {d : D} (h : Fg d) : D.agg (etaCells ks3 d 0) = d := eta_fit h.fit
def numsF (d : D) : List Int := [bI (d.cell 0).b, (d.cell 2).i, (d.cell 3).i, (d.cell 4).i, (d.cell 5).i, bI (d.cell 1).b, (d.cell 6).i]
def ordF (a b : D) : Int := cmpL (numsF a) (numsF b)
def ltF (a b : D) : Bool := decide (ordF a b < 0)
def pzF (d : D) : Bool := decide ((d.cell 2).i = 0 ∧ (d.cell 3).i = 0 ∧ (d.cell 4).i = 0 ∧ (d.cell 5).i = 0)
def pokF (d : D) : Bool := bif (d.cell 0).b then decide (prefI (d.cell 2).i (d.cell 3).i (d.cell 4).i (d.cell 5).i = 0) else pzF d
def goodF (d : D) : Bool := ((d.cell 0).b || (d.cell 1).b) && (pokF d && ((d.cell 1).b || decide ((d.cell 6).i = 0)))
theorem prefixes_ok (a b c d e f g h : Int) : Cl ty tab 89 [.agg [.int .u8 a, .int .u64 b, .int .u64 c, .int .i64 d], .agg [.int .u8 e, .int .u64 f, .int .u64 g, .int .i64 h]] = some [.int .i64 (firstN [sgn a e, sgn b f, sgn c g, sgn d h])] := by
 refine s_local_prefixes 0 _ _ _ _ _ _ _ _ ?_
 unfold local_prefixes
 have hor := fun n => or_ok n [sgn a e, firstN [sgn b f, sgn c g], sgn d h] (by simp)
 simp only [List.map_cons, List.map_nil] at hor
 simp (disch := omega) only [gds, cmp_u8, cmp_int, addrC_ok, hor]
 have : firstN [sgn a e, firstN [sgn b f, sgn c g], sgn d h] = firstN [sgn a e, sgn b f, sgn c g, sgn d h] := by
  simp only [firstN]
  by_cases h1 : sgn a e = 0 <;> by_cases h2 : sgn b f = 0 <;> by_cases h3 : sgn c g = 0 <;> simp [h1, h2, h3]
 rw [this]
theorem byPrefix1_ok (a b : D) (ha : Fg a) (hb : Fg b) : Cl ty tab 86 [a, b] = some [.int .i64 (ordF a b)] := by
 have := s_local_byPrefix_1 0 a b (r := [.int .i64 (ordF a b)]) ?_
 · rwa [ha.eta, hb.eta] at this
 unfold local_byPrefix_1
 have hor := fun n => or_ok n [sgn (bI (a.cell 0).b) (bI (b.cell 0).b), firstN [sgn (a.cell 2).i (b.cell 2).i, sgn (a.cell 3).i (b.cell 3).i, sgn (a.cell 4).i (b.cell 4).i, sgn (a.cell 5).i (b.cell 5).i], sgn (bI (a.cell 1).b) (bI (b.cell 1).b), sgn (a.cell 6).i (b.cell 6).i] (by simp)
 simp only [List.map_cons, List.map_nil] at hor
 simp (disch := omega) only [gds, truth_ok, prefixes_ok, cmp_u32, hor]
 have : ∀ x1 x2 x3 x4 x5 x6 x7 : Int, firstN [x1, firstN [x2, x3, x4, x5], x6, x7] = firstN [x1, x2, x3, x4, x5, x6, x7] := fun x1 x2 x3 x4 x5 x6 x7 => by
  simp only [firstN]
  by_cases h1 : x1 = 0 <;> by_cases h2 : x2 = 0 <;> by_cases h3 : x3 = 0 <;> by_cases h4 : x4 = 0 <;> by_cases h5 : x5 = 0 <;> simp [h1, h2, h3, h4, h5]
 rw [this]
 unfold ordF numsF
 rw [cmpL_first]
 rfl
theorem byPrefix2_ok (d : D) (h : Fg d) : Cl ty tab 91 [d] = some [.bool (goodF d)] := by
 have := s_local_byPrefix_2 0 d (r := [.bool (goodF d)]) ?_
 · rwa [h.eta] at this
 unfold local_byPrefix_2 goodF pokF pzF
 have hc := check_i (d.cell 2).i (d.cell 3).i (d.cell 4).i (d.cell 5).i h.hi h.lo
 cases h0 : (d.cell 0).b <;> cases h1 : (d.cell 1).b
 · simp (disch := omega) only [gds, h0, h1]
 · by_cases z : (d.cell 2).i = 0 ∧ (d.cell 3).i = 0 ∧ (d.cell 4).i = 0 ∧ (d.cell 5).i = 0
   · obtain ⟨z1, z2, z3, z4⟩ := z
     simp (disch := omega) only [gds, h0, h1, z1, z2, z3, z4, and_self]
   · have : (decide ((d.cell 2).i = 0) && (decide ((d.cell 3).i = 0) && (decide ((d.cell 4).i = 0) && decide ((d.cell 5).i = 0)))) = false := by
      rw [Bool.eq_false_iff]; intro hh; exact z (by simpa using hh)
     simp (disch := omega) only [gds, h0, h1, z, this]
 · by_cases z : prefI (d.cell 2).i (d.cell 3).i (d.cell 4).i (d.cell 5).i = 0
   · simp (disch := omega) only [gds, h0, h1, hc, z]
   · simp (disch := omega) only [gds, h0, h1, hc, z]
 · by_cases z : prefI (d.cell 2).i (d.cell 3).i (d.cell 4).i (d.cell 5).i = 0
   · simp (disch := omega) only [gds, h0, h1, hc, z]
   · simp (disch := omega) only [gds, h0, h1, hc, z]
theorem wrapU {n : Int} (h : 0 ≤ n ∧ n < 18446744073709551616) : IntKind.u64.wrap n = n := by rw [wrap_u64]; omega
abbrev yKs : List Sk := [.bool, .bool, .int .u32, .int .u8, .int .u8, .int .u8, .int .u8, .int .u8, .int .u8, .int .u8, .int .u8, .int .u8, .int .u8, .int .u8, .int .u8, .int .u8, .int .u8, .int .u8, .int .u8, .int .i64]
abbrev yKsE (d : D) (n : Nat) : List D := etaCells ks4 d n
structure Yg (d : D) : Prop where
 fit : Vk.fits ⟨true, yKs⟩ d = true
 as : 0 ≤ (d.cell 2).i ∧ (d.cell 2).i < 4294967296
 rt : ∀ x, x ∈ rootN d 3 → 0 ≤ x ∧ x < 256
theorem Yg.eta {d : D} (h : Yg d) : D.agg (yKsE d 0) = d := eta_fit h.fit
def numsY (d : D) : List Int := bI (d.cell 0).b :: (d.cell 2).i :: bI (d.cell 1).b :: (rootN d 3 ++ [(d.cell 19).i])
def ordY (a b : D) : Int := cmpL (numsY a) (numsY b)
def ltY (a b : D) : Bool := decide (ordY a b < 0)
def zeroY (d : D) : Bool := eqCells (etaCells ks6 d 3) [D.int .u8 0, D.int .u8 0, D.int .u8 0, D.int .u8 0, D.int .u8 0, D.int .u8 0, D.int .u8 0, D.int .u8 0, D.int .u8 0, D.int .u8 0, D.int .u8 0, D.int .u8 0, D.int .u8 0, D.int .u8 0, D.int .u8 0, D.int .u8 0, D.int .i64 0]
def kokY (d : D) : Bool := bif (d.cell 1).b then decide (0 ≤ (d.cell 19).i ∧ (d.cell 19).i ≤ 4) else zeroY d
def goodY (d : D) : Bool := ((d.cell 1).b || (d.cell 0).b) && (kokY d && ((d.cell 0).b || decide ((d.cell 2).i = 0)))
theorem byKey1_ok (a b : D) (ha : Yg a) (hb : Yg b) : Cl ty tab 92 [a, b] = some [.int .i64 (ordY a b)] := by
 have := s_local_byKey_1 0 a b (r := [.int .i64 (ordY a b)]) ?_
 · rwa [ha.eta, hb.eta] at this
 unfold local_byKey_1
 have hc := cmpB_cmpL (rootN a 3) (rootN b 3) (by rw [rootN_len, rootN_len]) ha.rt hb.rt
 have hb1 : Cl ty tab 93 [.sl 5 false (rKsE a 3), .sl 5 false (rKsE b 3)] = some [.int .i64 (cmpL (rootN a 3) (rootN b 3))] := by
  rw [s_bytes_Compare, rootN_eta, rootN_eta, ← hc]; rfl
 have hor := fun n => or_ok n [sgn (bI (a.cell 0).b) (bI (b.cell 0).b), sgn (a.cell 2).i (b.cell 2).i, sgn (bI (a.cell 1).b) (bI (b.cell 1).b), cmpL (rootN a 3) (rootN b 3), sgn (a.cell 19).i (b.cell 19).i] (by simp)
 simp only [List.map_cons, List.map_nil] at hor
 simp (disch := omega) only [gds, truth_ok, cmp_u32, cmp_int, hor, hb1]
 unfold ordY numsY
 rw [cmpL_cons, cmpL_cons, cmpL_cons, cmpL_app _ _ _ _ (by rw [rootN_len, rootN_len]), cmpL_single]
 rfl
theorem byKey2_ok (d : D) (h : Yg d) : Cl ty tab 95 [d] = some [.bool (goodY d)] := by
 have := s_local_byKey_2 0 d (r := [.bool (goodY d)]) ?_
 · rwa [h.eta] at this
 unfold local_byKey_2 goodY kokY
 have hz : eqCells (etaCells ks6 d 3) [D.int .u8 0, D.int .u8 0, D.int .u8 0, D.int .u8 0, D.int .u8 0, D.int .u8 0, D.int .u8 0, D.int .u8 0, D.int .u8 0, D.int .u8 0, D.int .u8 0, D.int .u8 0, D.int .u8 0, D.int .u8 0, D.int .u8 0, D.int .u8 0, D.int .i64 0] = zeroY d := rfl
 rw [hz]
 cases h0 : (d.cell 0).b <;> cases h1 : (d.cell 1).b <;> cases hz2 : zeroY d <;> by_cases h2 : 0 ≤ (d.cell 19).i <;> by_cases h3 : (d.cell 19).i ≤ 4 <;> simp (disch := omega) only [gds, h0, h1, hz2, h2, h3, and_self, and_false, false_and, and_true, true_and]
structure Cg (d : D) : Prop where
 form : ∃ x : Int, d = .int .u32 x
theorem Cg.eta {d : D} (h : Cg d) : D.int .u32 (d.cell 0).i = d := by obtain ⟨x, rfl⟩ := h.form; rfl
def ordC (a b : D) : Int := sgn (a.cell 0).i (b.cell 0).i
def ltC (a b : D) : Bool := decide (ordC a b < 0)
def goodC (_ : D) : Bool := true
theorem byCustomer_ok (a b : D) (ha : Cg a) (hb : Cg b) : Cl ty tab 90 [a, b] = some [.int .i64 (ordC a b)] := by
 rw [← ha.eta, ← hb.eta]; exact cmp_u32 _ _
theorem byCustomer1_ok (d : D) (h : Cg d) : Cl ty tab 96 [d] = some [.bool (goodC d)] := by
 rw [← h.eta]; exact s_local_byCustomer_1 0 _ rfl
theorem checkF_ok (n : Bool) (l : List D) (hl : ∀ d, d ∈ l → Fg d) (hn : l.length ≤ 9223372036854775807) : Cl ty tab 83 [.agg [.fn 86 [], .fn 91 []], .sl 70 n l] = some [.bool (risF goodF ltF l)] := by
 obtain ⟨k, hk⟩ := rounds
 refine s_api_LocalPrefix_check k _ _ ?_
 unfold api_LocalPrefix_check
 have hE : ∀ d, d ∈ l → D.agg (etaCells ks3 d 0) = d := fun d hd => (hl d hd).eta
 have := ris_loop (F := api_LocalPrefix_check.b0 (Cl ty tab) k l) l goodF ltF (fun i => [.int .i64 i]) (some [.bool false]) (some [.bool true]) (fun i hi again => ?_) (fun again => ?_) k (by omega)
 · simp only [Int.natCast_zero] at this
   rw [this]
   cases risF goodF ltF l <;> rfl
 · unfold api_LocalPrefix_check.b0
   have e0 := hE l[i] (List.getElem_mem hi)
   have g0 := byPrefix2_ok l[i] (hl _ (List.getElem_mem hi))
   cases hg : goodF l[i]
   · simp (disch := omega) only [gds, getD_get, e0, g0, hg, false_and]
   · by_cases h0 : i = 0
     · subst h0
       simp (disch := omega) only [gds, getD_get, e0, g0, hg, true_and, true_or, Int.natCast_zero, Int.toNat_zero, Int.zero_add, Int.natCast_one]
     · have hi1 : i - 1 < l.length := by omega
       have e1 := hE l[i - 1] (List.getElem_mem hi1)
       have o1 := byPrefix1_ok l[i - 1] l[i] (hl _ (List.getElem_mem hi1)) (hl _ (List.getElem_mem hi))
       have el : ltF l[i - 1] l[i] = decide (ordF l[i - 1] l[i] < 0) := rfl
       by_cases hlt : ordF l[i - 1] l[i] < 0
       · simp (disch := omega) only [gds, getD_get, e0, e1, o1, g0, hg, true_and, false_or, h0, el, hlt, Int.natCast_add, Int.natCast_one]
       · simp (disch := omega) only [gds, getD_get, e0, e1, o1, g0, hg, true_and, false_or, h0, el, hlt, Int.natCast_add, Int.natCast_one]
 · unfold api_LocalPrefix_check.b0
   simp (disch := omega) only [gds]
theorem checkY_ok (n : Bool) (l : List D) (hl : ∀ d, d ∈ l → Yg d) (hn : l.length ≤ 9223372036854775807) : Cl ty tab 84 [.agg [.fn 92 [], .fn 95 []], .sl 73 n l] = some [.bool (risF goodY ltY l)] := by
 obtain ⟨k, hk⟩ := rounds
 refine s_api_LocalKey_check k _ _ ?_
 unfold api_LocalKey_check
 have hE : ∀ d, d ∈ l → D.agg (etaCells ks4 d 0) = d := fun d hd => (hl d hd).eta
 have := ris_loop (F := api_LocalKey_check.b0 (Cl ty tab) k l) l goodY ltY (fun i => [.int .i64 i]) (some [.bool false]) (some [.bool true]) (fun i hi again => ?_) (fun again => ?_) k (by omega)
 · simp only [Int.natCast_zero] at this
   rw [this]
   cases risF goodY ltY l <;> rfl
 · unfold api_LocalKey_check.b0
   have e0 := hE l[i] (List.getElem_mem hi)
   have g0 := byKey2_ok l[i] (hl _ (List.getElem_mem hi))
   cases hg : goodY l[i]
   · simp (disch := omega) only [gds, getD_get, e0, g0, hg, false_and]
   · by_cases h0 : i = 0
     · subst h0
       simp (disch := omega) only [gds, getD_get, e0, g0, hg, true_and, true_or, Int.natCast_zero, Int.toNat_zero, Int.zero_add, Int.natCast_one]
     · have hi1 : i - 1 < l.length := by omega
       have e1 := hE l[i - 1] (List.getElem_mem hi1)
       have o1 := byKey1_ok l[i - 1] l[i] (hl _ (List.getElem_mem hi1)) (hl _ (List.getElem_mem hi))
       have el : ltY l[i - 1] l[i] = decide (ordY l[i - 1] l[i] < 0) := rfl
       by_cases hlt : ordY l[i - 1] l[i] < 0
       · simp (disch := omega) only [gds, getD_get, e0, e1, o1, g0, hg, true_and, false_or, h0, el, hlt, Int.natCast_add, Int.natCast_one]
       · simp (disch := omega) only [gds, getD_get, e0, e1, o1, g0, hg, true_and, false_or, h0, el, hlt, Int.natCast_add, Int.natCast_one]
 · unfold api_LocalKey_check.b0
   simp (disch := omega) only [gds]
theorem checkC_ok (n : Bool) (l : List D) (hl : ∀ d, d ∈ l → Cg d) (hn : l.length ≤ 9223372036854775807) : Cl ty tab 85 [.agg [.fn 90 [], .fn 96 []], .sl 51 n l] = some [.bool (risF goodC ltC l)] := by
 obtain ⟨k, hk⟩ := rounds
 refine s_local_order_uint32_check k _ _ ?_
 unfold local_order_uint32_check
 have hE : ∀ d, d ∈ l → D.int .u32 (d.cell 0).i = d := fun d hd => (hl d hd).eta
 have := ris_loop (F := local_order_uint32_check.b0 (Cl ty tab) k l) l goodC ltC (fun i => [.int .i64 i]) (some [.bool false]) (some [.bool true]) (fun i hi again => ?_) (fun again => ?_) k (by omega)
 · simp only [Int.natCast_zero] at this
   rw [this]
   cases risF goodC ltC l <;> rfl
 · unfold local_order_uint32_check.b0
   have e0 := hE l[i] (List.getElem_mem hi)
   have g0 := byCustomer1_ok l[i] (hl _ (List.getElem_mem hi))
   cases hg : goodC l[i]
   · simp (disch := omega) only [gds, getD_get, e0, g0, hg, false_and]
   · by_cases h0 : i = 0
     · subst h0
       simp (disch := omega) only [gds, getD_get, e0, g0, hg, true_and, true_or, Int.natCast_zero, Int.toNat_zero, Int.zero_add, Int.natCast_one]
     · have hi1 : i - 1 < l.length := by omega
       have e1 := hE l[i - 1] (List.getElem_mem hi1)
       have o1 := byCustomer_ok l[i - 1] l[i] (hl _ (List.getElem_mem hi1)) (hl _ (List.getElem_mem hi))
       have el : ltC l[i - 1] l[i] = decide (ordC l[i - 1] l[i] < 0) := rfl
       by_cases hlt : ordC l[i - 1] l[i] < 0
       · simp (disch := omega) only [gds, getD_get, e0, e1, o1, g0, hg, true_and, false_or, h0, el, hlt, Int.natCast_add, Int.natCast_one]
       · simp (disch := omega) only [gds, getD_get, e0, e1, o1, g0, hg, true_and, false_or, h0, el, hlt, Int.natCast_add, Int.natCast_one]
 · unfold local_order_uint32_check.b0
   simp (disch := omega) only [gds]
end Go.Proofs.YtapfhcnigmighaaGreat.Own
