import Derived.Test.YtapfhcnigmighaaGreatTwin
import Derived.Test.YtapfhcnigmighaaGreatOf
set_option linter.unusedVariables false
set_option linter.unusedSimpArgs false
namespace Go.Proofs.YtapfhcnigmighaaGreat.Own
open Go Go.Proofs.YtapfhcnigmighaaGreat.GD
def NnL (p : List D) : Prop := ∀ d, d ∈ p → (d.cell 1).nb = true → (d.cell 1).els = []
def goneO (x d : D) : Bool := (x.cell 0).els.any fun f => takesO f d
def goneK (x d : D) : Bool := (x.cell 1).els.any fun f => takesK f d
def goneP (x d : D) : Bool := decide (0 ≤ idx (d.cell 0).i (x.cell 2).els 0)
theorem payC_zero {o p q : List D} (h : payC o p q = 0) : o.length ≤ 1000 ∧ p.length ≤ 300 ∧ q.length ≤ 100 ∧ longP p = false := by
 unfold payC at h
 split at h
 · cases h
 · rename_i hc
   refine ⟨by omega, by omega, by omega, ?_⟩
   cases hl : longP p
   · rfl
   · exact absurd (.inr (.inr (.inr hl))) hc
theorem xC_zero {x : D} (h : xC x = 0) : (x.cell 0).els.length ≤ 100 ∧ (x.cell 1).els.length ≤ 100 ∧ (x.cell 2).els.length ≤ 100 ∧ payC (x.cell 3).els (x.cell 4).els (x.cell 5).els = 0 := by
 unfold xC at h
 split at h
 · cases h
 · rename_i hc
   split at h
   · exact ⟨by omega, by omega, by omega, h⟩
   · cases h
abbrev nilPay : D := payD true true true [] [] []
theorem or_err_ok (a b : Int) : Cl ty tab 52 [.sl 35 false [.int .i64 a, .int .i64 b]] = some [.int .i64 (firstN [a, b])] := by
 refine s_cmp_Or_52 3 false _ ?_
 unfold cmp_Or_52
 have := iter_ix (R := List D) (F := cmp_Or_52.b0 (Cl ty tab) 3 [.int .i64 a, .int .i64 b]) 2 (fun i => [.int .i64 i]) (fun i => some [.int .i64 (firstN ([a, b].drop i))]) (fun i hi ag ha => ?_) (fun ag => ?_) 3 (by omega) 0 (by omega)
 · exact this
 · unfold cmp_Or_52.b0
   rcases (by omega : i = 0 ∨ i = 1) with rfl | rfl
   · by_cases h : a = 0
     · subst h
       simp only [List.drop_succ_cons, List.drop_zero] at ha
       simp (disch := omega) only [gds, firstN, ne_eq, not_true_eq_false] at ha ⊢
       exact ha
     · simp (disch := omega) only [gds, List.drop_succ_cons, List.drop_zero, firstN, h, ne_eq, not_false_eq_true]
   · by_cases h : b = 0
     · subst h
       simp (disch := omega) only [gds, firstN, ne_eq, not_true_eq_false] at ha ⊢
       exact ha
     · simp (disch := omega) only [gds, List.drop_succ_cons, List.drop_zero, firstN, h, ne_eq, not_false_eq_true]
 · unfold cmp_Or_52.b0
   simp (disch := omega) only [gds, firstN]
   rfl
section
variable (n m t : Bool) (o p q : List D) (x : D) (hp : Pay o p q) (hx : Xg x)
include hp hx
theorem filter_bad (h : firstN [payC o p q, xC x] ≠ 0) : Cl ty tab 19 [payD n m t o p q, x] = some [nilPay, .int .i64 (firstN [payC o p q, xC x])] := by
 have := s_local_Filter 0 n o m p t q x (r := [nilPay, .int .i64 (firstN [payC o p q, xC x])]) ?_
 · have e := hx.eta
   rwa [show D.agg (etaCells ks0 x 0) = x from e] at this
 unfold local_Filter
 have c1 := diffCheck_ok n m t o p q hp
 have c2 := localCheck_ok x hx
 have e : D.agg (etaCells ks0 x 0) = x := hx.eta
 have c3 := or_err_ok (payC o p q) (xC x)
 simp (disch := omega) only [gds, c1, c2, e, c3, h, ne_eq, not_false_eq_true]
theorem filter_good' (h1 : payC o p q = 0) (h2 : xC x = 0) (hn : n = true → o = []) (hm : m = true → p = []) (ht : t = true → q = []) (hN : NnL p) : ∃ n' m' t', (n' = true → o = []) ∧ (m' = true → p = []) ∧ (t' = true → q = []) ∧ Cl ty tab 19 [payD n m t o p q, x] = some [payD n' m' t' (o.filter fun d => !goneO x d) (p.filter fun d => !goneP x d) (q.filter fun d => !goneK x d), .int .i64 0] := by
 obtain ⟨g1, g2, g3, g4⟩ := payC_zero h1
 obtain ⟨f1, f2, f3, f4⟩ := xC_zero h2
 have e : D.agg (etaCells ks0 x 0) = x := hx.eta
 have c1 := diffCheck_ok n m t o p q hp
 have c2 := localCheck_ok x hx
 have c3 := or_err_ok (payC o p q) (xC x)
 have hP : ∀ d, d ∈ p → Pg d ∧ Nn d := fun d hd => ⟨(hp.hp d hd).1, hN d hd, by have := long_len g4 d hd; omega⟩
 have c4 := twin_ok n m t o p q hn ht (by omega) (by omega) (by omega) hP
 obtain ⟨n', z1, k1⟩ := keepO_ok (x.cell 0).nb (x.cell 1).nb (x.cell 2).nb (x.cell 3).nb (x.cell 4).nb (x.cell 5).nb (x.cell 0).els (x.cell 1).els (x.cell 2).els (x.cell 3).els (x.cell 4).els (x.cell 5).els (goneO x) n o (by omega) (fun d hd => (hp.ho d hd).eta)
  (fun d hd => filterO_ok _ _ _ _ _ _ _ _ _ _ _ _ d hx.hf (by omega) (hp.ho d hd)) hn
 obtain ⟨t', z2, k2⟩ := keepK_ok (x.cell 0).nb (x.cell 1).nb (x.cell 2).nb (x.cell 3).nb (x.cell 4).nb (x.cell 5).nb (x.cell 0).els (x.cell 1).els (x.cell 2).els (x.cell 3).els (x.cell 4).els (x.cell 5).els (goneK x) t q (by omega) (fun d hd => (hp.hq d hd).eta)
  (fun d hd => filterK_ok _ _ _ _ _ _ _ _ _ _ _ _ d hx.hy (by omega) (hp.hq d hd)) ht
 obtain ⟨m', z3, k3⟩ := keepP_ok (x.cell 0).nb (x.cell 1).nb (x.cell 2).nb (x.cell 3).nb (x.cell 4).nb (x.cell 5).nb (x.cell 0).els (x.cell 1).els (x.cell 2).els (x.cell 3).els (x.cell 4).els (x.cell 5).els (goneP x) p.isEmpty p (by omega) (fun d hd => (hp.hp d hd).1.eta)
  (fun d hd => filterP_ok _ _ _ _ _ _ _ _ _ _ _ _ d (by omega) (hp.hp d hd).1) (fun h => by simpa using h)
 refine ⟨n', m', t', z1, z3, z2, ?_⟩
 have := s_local_Filter 0 n o m p t q x (r := [payD n' m' t' (o.filter fun d => !goneO x d) (p.filter fun d => !goneP x d) (q.filter fun d => !goneK x d), .int .i64 0]) ?_
 · rwa [e] at this
 unfold local_Filter
 rw [h1, h2] at c3
 simp (disch := omega) only [gds, c1, c2, e, h1, h2, c3, firstN, ne_eq, not_true_eq_false, c4, k1, k2, k3]
theorem filter_good (h1 : payC o p q = 0) (h2 : xC x = 0) (hn : n = true → o = []) (hm : m = true → p = []) (ht : t = true → q = []) (hN : NnL p) : ∃ n' m' t', Cl ty tab 19 [payD n m t o p q, x] = some [payD n' m' t' (o.filter fun d => !goneO x d) (p.filter fun d => !goneP x d) (q.filter fun d => !goneK x d), .int .i64 0] := by
 obtain ⟨n', m', t', _, _, _, h⟩ := filter_good' n m t o p q x hp hx h1 h2 hn hm ht hN
 exact ⟨n', m', t', h⟩
end
end Go.Proofs.YtapfhcnigmighaaGreat.Own
