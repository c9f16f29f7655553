import Derived.Test.YtapfhcnigmighaaGreatUniP
import Derived.Test.YtapfhcnigmighaaGreatAl
import Derived.Test.YtapfhcnigmighaaGreatLawOf
import Derived.Test.YtapfhcnigmighaaGreatRLocalProviders
set_option linter.unusedVariables false
set_option linter.unusedSimpArgs false
namespace Go.Proofs.YtapfhcnigmighaaGreat.Own
open Go Go.Proofs.YtapfhcnigmighaaGreat.GD
def provD (o : Option D) : D := match o with | some d => .sl 51 (d.cell 1).nb (d.cell 1).els | none => .sl 51 true []
theorem providers_ok (n : Bool) (l : List D) (c : Int) (hl : l.length ≤ 60000) : Cl ty tab 30 [.sl 84 n l, .int .u32 c] = some [provD (fndP c l)] := by
 refine s_gatepathlaw43_providers 60001 n l c ?_
 unfold gatepathlaw43_providers
 have := iter_ix (R := List D) (F := gatepathlaw43_providers.b0 (Cl ty tab) 60001 l c) l.length (fun i => [.int .i64 i]) (fun i => some [provD (fndP c (l.drop i))]) (fun i hi ag ha => ?_) (fun ag => ?_) 60001 (by omega) 0 (by omega)
 · simpa using this
 · rw [List.drop_eq_getElem_cons hi, fnd_cons]
   unfold gatepathlaw43_providers.b0 custP
   rw [show ((i + 1 : Nat) : Int) = (i : Int) + 1 by omega] at ha
   by_cases hc : (l[i].cell 0).i = c
   · simp (disch := omega) only [gds, getD_get, hc, provD]
   · simp (disch := omega) only [gds, getD_get, hc]
     exact ha
 · rw [List.drop_length]
   unfold gatepathlaw43_providers.b0
   simp (disch := omega) only [gds]
   rfl
theorem has_ok (n : Bool) (L : List Int) (v : Int) (hl : L.length ≤ 60000) : Cl ty tab 31 [.sl 51 n (L.map (D.int .u32)), .int .u32 v] = some [.bool (decide (v ∈ L))] := by
 refine s_gatepathlaw43_has 60001 n _ v ?_
 unfold gatepathlaw43_has
 have := iter_ix (R := List D) (F := gatepathlaw43_has.b0 (Cl ty tab) 60001 (L.map (D.int .u32)) v) L.length (fun i => [.int .i64 i]) (fun i => some [.bool (decide (v ∈ L.drop i))]) (fun i hi ag ha => ?_) (fun ag => ?_) 60001 (by omega) 0 (by omega)
 · simpa using this
 · rw [List.drop_eq_getElem_cons hi]
   unfold gatepathlaw43_has.b0
   rw [show ((i + 1 : Nat) : Int) = (i : Int) + 1 by omega] at ha
   by_cases hc : L[i] = v
   · simp (disch := omega) only [gds, hc, List.mem_cons, true_or]
   · have hc' : ¬ v = L[i] := fun e => hc e.symm
     simp (disch := omega) only [gds, hc, hc', List.mem_cons, false_or]
     exact ha
 · rw [List.drop_length]
   unfold gatepathlaw43_has.b0
   simp (disch := omega) only [gds, List.not_mem_nil]
theorem good_nums {d : D} (hp : Pg d) (hg : goodP d = true) : ∃ A : List Int, (d.cell 1).els = A.map (D.int .u32) ∧ A ≠ [] ∧ A.length ≤ 50 ∧ A.Pairwise (· < ·) := by
 obtain ⟨A, eA, _⟩ := hp.els
 unfold goodP chkA at hg
 have hg := of_decide_eq_true hg
 split at hg
 · cases hg
 rename_i hl
 split at hg
 case isFalse => cases hg
 rename_i h
 obtain ⟨_, h2, _, _, h5⟩ := h
 rw [eA] at h2 h5 hl
 have hl : A.length ≤ 50 := by simpa using hl
 refine ⟨A, eA, by simpa using h2, hl, List.pairwise_iff_getElem.2 fun i j hi hj hij => ?_⟩
 have at_ : ∀ i, (h : i < A.length) → at' (A.map (D.int .u32)) i = A[i] := fun i h => by unfold at'; rw [getD_map h]; rfl
 have step : ∀ n i, (h1 : i + n + 1 < A.length) → A[i] < A[i + n + 1] := fun n => by
  induction n with
  | zero =>
   intro i h1
   have := h5 (i + 1) (by omega) (by simpa using h1)
   rw [Nat.add_sub_cancel, at_ i (by omega), at_ (i + 1) (by omega)] at this
   exact this
  | succ n ih =>
   intro i h1
   have := h5 (i + n + 2) (by omega) (by simp; omega)
   rw [show i + n + 2 - 1 = i + n + 1 by omega, at_ _ (by omega), at_ _ (by omega)] at this
   exact Int.lt_trans (ih i (by omega)) this
 have := step (j - i - 1) i (by omega)
 simpa [show i + (j - i - 1) + 1 = j by omega] using this
theorem allz {A : List Int} (hn : A ≠ []) (hp : A.Pairwise (· < ·)) : (∀ z, z ∈ A → z = 0) ↔ A.length = 1 ∧ A.getD 0 5 = 0 := by
 match A, hn, hp with
 | [a], _, _ => simp
 | a :: b :: t, _, hp =>
  have h1 := (List.pairwise_cons.1 hp).1 b (by simp)
  refine ⟨fun h => ?_, fun h => by simp at h⟩
  have := h a (by simp)
  have := h b (by simp)
  omega
section
variable (k : Nat) (n m t : Bool) (o p q : List D) (x : D) (c v : Int) (hp : Pay o p q) (hx : Xg x) (hn : n = true → o = []) (hm : m = true → p = []) (ht : t = true → q = []) (hN : NnL p) (hN2 : NnL (x.cell 4).els)
include hp hx hn hm ht hN hN2
theorem law6_cl : Cl ty tab 6 [payD n m t o p q, x, .int .u32 c, .int .u32 v] = some [.bool true] := by
 have ex : D.agg (etaCells ks0 x 0) = x := hx.eta
 have key := s_gatepathlaw43_LocalProviders 0 n o m p t q x c v (r := [.bool true]) ?_
 · rwa [show D.agg (etaCells ks0 x 0) = x from ex] at key
 unfold gatepathlaw43_LocalProviders
 rw [ex, alive_is]
 obtain ⟨b, hb, hbs⟩ := Great34_ok n m t o p q hp
 cases b
 case true => simp (disch := omega) only [gds, hb]
 obtain ⟨b, hb2, hbs2⟩ := Great43_ok x hx
 cases b
 case true => simp (disch := omega) only [gds, hb, hb2]
 by_cases he : firstN [payC o p q, xC x] = 0
 case neg =>
  have hf := filter_bad n m t o p q x hp hx he
  rcases apply_ok n m t o p q x hp hx hn hm ht hN hN2 with ⟨r, hr, ha⟩ | ⟨m'', h1, h2, h3, h4, ha⟩
  · simp (disch := omega) only [gds, hb, hb2, ha, hr, hf, ne_eq, not_false_eq_true]
  · simp (disch := omega) only [gds, hb, hb2, ha, hf, he, ne_eq, not_false_eq_true, not_true_eq_false]
 have h0 := firstN_zero.1 he
 have h1 : payC o p q = 0 := h0 _ (by simp)
 have h2 : xC x = 0 := h0 _ (by simp)
 obtain ⟨n', m', t', hf⟩ := filter_good n m t o p q x hp hx h1 h2 hn hm ht hN
 obtain ⟨m'', s1, s2, ha⟩ := apply_hd n m t o p q x hp hx hn hm ht hN hN2 h1 h2
 split at ha
 case isFalse => simp (disch := omega) only [gds, hb, hb2, ha, hf, ne_eq, not_false_eq_true, not_true_eq_false]
 rename_i h4
 have s3 := sh_filter (fun d => !goneO x d) (fun d => !goneP x d) (fun d => !goneK x d) s1
 have hpp := pay_mrg _ _ _ _ _ _ s3 s2
 obtain ⟨f1, f2, f3, f4⟩ := payC_zero h4
 obtain ⟨sr1, g1⟩ := srt_of (payC_ris h1).2.1
 obtain ⟨sr2, g2⟩ := srt_of (payC_ris (xC_zero h2).2.2.2).2.1
 have fm := fnd_mrg c _ (p.filter fun d => !goneP x d) (x.cell 4).els (Nat.le_refl _) (sr1.filter _) sr2
 have c1 := providers_ok m' (p.filter fun d => !goneP x d) c (by have := s3.np; omega)
 have c2 := providers_ok (x.cell 4).nb (x.cell 4).els c (by have := s2.np; omega)
 have c3 := providers_ok m'' (mP (p.filter fun d => !goneP x d) (x.cell 4).els) c (by omega)
 rw [show fndP c (mP (p.filter fun d => !goneP x d) (x.cell 4).els) = _ from fm] at c3
 have mp1 : ∀ d, fndP c (p.filter fun d => !goneP x d) = some d → Pg d ∧ goodP d = true := fun d hd => by
  have := List.mem_of_find?_eq_some hd
  have := (List.mem_filter.1 this).1
  exact ⟨(hp.hp d this).1, g1 d this⟩
 have mp2 : ∀ d, fndP c (x.cell 4).els = some d → Pg d ∧ goodP d = true := fun d hd => by
  have := List.mem_of_find?_eq_some hd
  exact ⟨(s2.pay.hp d this).1, g2 d this⟩
 clear fm g1 g2 sr1 sr2 hpp f1 f2 f3 f4 s1 s2 s3 h4 h1 h2 h0 he hbs hbs2 hN hN2 hn hm ht
 generalize (p.filter fun d => !goneP x d) = P at *
 generalize (x.cell 4).els = Q at *
 generalize (x.cell 4).nb = Qn at *
 clear hp hx
 cases e1 : fndP c P with
 | none =>
  cases e2 : fndP c Q with
  | none =>
   rw [e1] at c1; rw [e2] at c2; rw [e1, e2] at c3
   have c4 := fun b => has_ok b [] v (by simp)
   simp only [List.map_nil] at c4
   simp (disch := omega) only [gds, hb, hb2, ha, hf, c1, c2, c3, provD, ne_eq, not_true_eq_false, List.append_nil, Nat.zero_mul, Nat.add_zero, Nat.zero_le, Int.natCast_zero, c4, beq_self_eq_true]
  | some y =>
   rw [e1] at c1; rw [e2] at c2; rw [e1, e2] at c3
   obtain ⟨B, eB, nB, lB, pB⟩ := good_nums (mp2 y e2).1 (mp2 y e2).2
   have c4 := fun b => has_ok b B v (by omega)
   have lb : B.length * 4 ≤ 140737488355328 := by omega
   simp (disch := omega) only [gds, hb, hb2, ha, hf, c1, c2, c3, provD, eB, c4, lb, ne_eq, not_true_eq_false, List.append_nil, Nat.zero_mul, Nat.add_zero, Nat.zero_le, Int.natCast_zero, beq_self_eq_true]
 | some z =>
  obtain ⟨A, eA, nA, lA, pA⟩ := good_nums (mp1 z e1).1 (mp1 z e1).2
  have la : A.length * 4 ≤ 140737488355328 := by omega
  have la0 : 0 < A.length := List.length_pos_iff.2 nA
  cases e2 : fndP c Q with
  | none =>
   rw [e1] at c1; rw [e2] at c2; rw [e1, e2] at c3
   have c4 := fun b => has_ok b A v (by omega)
   have hne : ¬ ((A.length : Nat) : Int) = 0 := by omega
   simp (disch := omega) only [gds, hb, hb2, ha, hf, c1, c2, c3, provD, eA, c4, la, hne, ne_eq, not_true_eq_false, List.append_nil, Nat.zero_mul, Nat.add_zero, Nat.zero_le, Int.natCast_zero, beq_self_eq_true]
  | some y =>
   obtain ⟨B, eB, nB, lB, pB⟩ := good_nums (mp2 y e2).1 (mp2 y e2).2
   have lb0 : 0 < B.length := List.length_pos_iff.2 nB
   rw [e1] at c1; rw [e2] at c2; rw [e1, e2] at c3
   have c4 := fun b => has_ok b A v (by omega)
   have c5 := fun b => has_ok b B v (by omega)
   have c6 := fun b => has_ok b (unionL (A ++ B)) v (by have := unionL_len (A ++ B); simp at this; omega)
   have hu : decide (v ∈ unionL (A ++ B)) = decide ((v ∈ A ∨ v ∈ B) ∧ (v ≠ 0 ∨ (∀ z, z ∈ A → z = 0) ∧ (∀ z, z ∈ B → z = 0))) := by
    rw [decide_eq_decide, mem_union, List.mem_append]
    refine and_congr_right fun _ => or_congr_right ?_
    constructor
    · exact fun h => ⟨fun z hz => h z (List.mem_append_left _ hz), fun z hz => h z (List.mem_append_right _ hz)⟩
    · rintro ⟨h1, h2⟩ z hz
      rcases List.mem_append.1 hz with hz | hz
      · exact h1 z hz
      · exact h2 z hz
   simp only [allz nA pA, allz nB pB] at hu
   have hne : ¬ ((A.length : Nat) : Int) = 0 := by omega
   have hne2 : ¬ ((B.length : Nat) : Int) = 0 := by omega
   have a0 : A[0] = A.getD 0 5 := by simp [zq1, la0]
   have b0 : B[0] = B.getD 0 5 := by simp [zq1, lb0]
   have z0 : v = 0 → A.length = 1 → A.getD 0 5 = 0 → v ∈ A := fun e1 e2 e3 => by
    have := List.getElem_mem la0
    rw [a0, e3] at this
    rwa [e1]
   have eU : ((unD z y).cell 1).els = (unionL (A ++ B)).map (D.int .u32) := by
    show (unionL ((z.cell 1).els.map D.i ++ (y.cell 1).els.map D.i)).map (D.int .u32) = _
    rw [(map_i eA).1, (map_i eB).1]
   have ca : ((A.length : Nat) : Int) = 1 ↔ A.length = 1 := by omega
   have cb : ((B.length : Nat) : Int) = 1 ↔ B.length = 1 := by omega
   dsimp only at c3
   generalize (unD z y) = u at c3 eU
   clear e1 e2 mp1 mp2 pA pB la nA nB lA lB
   have q0 : (0 : Int) < (A.length : Int) := by omega
   have hA0 : (A.map (D.int .u32)).getD 0 .undef = .int .u32 (A.getD 0 5) := by rw [getD_map la0, a0]
   have hB0 : (B.map (D.int .u32)).getD 0 .undef = .int .u32 (B.getD 0 5) := by rw [getD_map lb0, b0]
   have q1 : (0 : Int) < (B.length : Int) := by omega
   simp only [gds, hb, hb2, ha, hf, c1, c2, c3, provD, eA, eB, eU, hne, hne2, c4, c5, c6, ca, cb, List.length_map, hA0, hB0, a0, b0, q0, q1, Int.le_refl, and_self, ne_eq, not_true_eq_false, not_false_eq_true, hu]
   clear hb hb2 ha hf c1 c2 c3 c4 c5 c6 hu
   have hz : ∀ b : Bool, b = true → some [D.bool b] = some [D.bool true] := fun b h => by rw [h]
   by_cases h3 : v = 0
   · subst h3
     by_cases h1 : 0 ∈ A <;> by_cases h2 : 0 ∈ B <;> by_cases h4 : A.length = 1 <;> by_cases h6 : A.getD 0 5 = 0 <;> by_cases h5 : B.length = 1 <;> by_cases h7 : B.getD 0 5 = 0 <;> first | exact absurd (z0 rfl h4 h6) h1 | (clear eA eB eU hA0 hB0 a0 b0 z0 ex; simp only [h1, h2, h4, h5, h6, h7]; simp)
   · by_cases h1 : v ∈ A <;> by_cases h2 : v ∈ B <;> simp [h1, h2, h3]
end
theorem localProviders_law : LawTrue ty tab 6 [⟨true, [.sl 58, .sl 84, .sl 64]⟩, ⟨true, xKs⟩, ⟨false, [.int .u32]⟩, ⟨false, [.int .u32]⟩] := by
 refine lawTrue_of fun dd hf hw => ?_
 obtain ⟨d1, dd, rfl, h1, hf⟩ := fitsV_cons hf
 obtain ⟨d2, dd, rfl, h2, hf⟩ := fitsV_cons hf
 obtain ⟨d3, dd, rfl, h3, hf⟩ := fitsV_cons hf
 obtain ⟨d4, dd, rfl, h4, hf⟩ := fitsV_cons hf
 obtain rfl := fitsV_nil hf
 obtain ⟨n, m, t, o, p, q, rfl, hp, hn, hm, ht, hN⟩ := pay_of h1 (hw _ (by simp))
 obtain ⟨c, rfl⟩ := fits_int (fits_one h3)
 obtain ⟨v, rfl⟩ := fits_int (fits_one h4)
 exact law6_cl n m t o p q d2 c v hp (xg_of h2 (hw _ (by simp))) hn hm ht hN (nnl_of h2 (hw _ (by simp)))
end Go.Proofs.YtapfhcnigmighaaGreat.Own
