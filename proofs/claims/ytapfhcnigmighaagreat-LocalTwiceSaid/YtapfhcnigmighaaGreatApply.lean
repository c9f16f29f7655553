import Derived.Test.YtapfhcnigmighaaGreatAdd
set_option linter.unusedVariables false
set_option linter.unusedSimpArgs false
namespace Go.Proofs.YtapfhcnigmighaaGreat.Own
open Go Go.Proofs.YtapfhcnigmighaaGreat.GD
abbrev mO (a b : List D) : List D := mrg ordO fst2 a b
abbrev mK (a b : List D) : List D := mrg ordK fst2 a b
abbrev mP (a b : List D) : List D := mrg ordP unD a b
structure Sh (o p q : List D) : Prop where
 pay : Pay o p q
 no : o.length ≤ 1000
 np : p.length ≤ 300
 nq : q.length ≤ 100
 el : ∀ d, d ∈ p → (d.cell 1).els.length ≤ 50
 nn : NnL p
theorem sh_of {o p q : List D} (hp : Pay o p q) (h : payC o p q = 0) (hn : NnL p) : Sh o p q :=
 let ⟨a, b, c, d⟩ := payC_zero h
 ⟨hp, a, b, c, long_len d, hn⟩
theorem sh_filter {o p q : List D} (f g k : D → Bool) (h : Sh o p q) : Sh (o.filter f) (p.filter g) (q.filter k) where
 pay := ⟨fun d hd => h.pay.ho d (List.mem_filter.1 hd).1, fun d hd => h.pay.hp d (List.mem_filter.1 hd).1, fun d hd => h.pay.hq d (List.mem_filter.1 hd).1, Nat.le_trans (List.length_filter_le ..) h.pay.no, Nat.le_trans (List.length_filter_le ..) h.pay.np, Nat.le_trans (List.length_filter_le ..) h.pay.nq⟩
 no := Nat.le_trans (List.length_filter_le ..) h.no
 np := Nat.le_trans (List.length_filter_le ..) h.np
 nq := Nat.le_trans (List.length_filter_le ..) h.nq
 el := fun d hd => h.el d (List.mem_filter.1 hd).1
 nn := fun d hd => h.nn d (List.mem_filter.1 hd).1
section
variable (n m t n' m' t' : Bool) (o p q o' p' q' : List D) (h : Sh o p q) (h' : Sh o' p' q')
include h h'
theorem pay_mrg : Pay (mO o o') (mP p p') (mK q q') := by
 have a1 := h.no; have a2 := h.np; have a3 := h.nq; have b1 := h'.no; have b2 := h'.np; have b3 := h'.nq
 have l1 : (mO o o').length ≤ o.length + o'.length := mrg_len ..
 have l2 : (mP p p').length ≤ p.length + p'.length := mrg_len ..
 have l3 : (mK q q').length ≤ q.length + q'.length := mrg_len ..
 refine ⟨mrg_all o o' h.pay.ho h'.pay.ho fun x hx y hy => h.pay.ho x hx, mrg_all p p' h.pay.hp h'.pay.hp fun x hx y hy => ?_, mrg_all q q' h.pay.hq h'.pay.hq fun x hx y hy => h.pay.hq x hx, by omega, by omega, by omega⟩
 have e1 := h.el x hx
 have e2 := h'.el y hy
 obtain ⟨g1, g2, g3⟩ := unD_pg x y (h.pay.hp x hx).1 (h'.pay.hp y hy).1 (by omega) (by omega)
 exact ⟨g1, by rw [g3]; exact (h.pay.hp x hx).2⟩
theorem add_is : Cl ty tab 45 [payD n m t o p q, payD n' m' t' o' p' q'] = some [payD false (mP p p').isEmpty false (mO o o') (mP p p') (mK q q')] := by
 have a1 := h.no; have a2 := h.np; have a3 := h.nq; have b1 := h'.no; have b2 := h'.np; have b3 := h'.nq
 have l1 : (mO o o').length ≤ o.length + o'.length := mrg_len ..
 have l2 : (mP p p').length ≤ p.length + p'.length := mrg_len ..
 have l3 : (mK q q').length ≤ q.length + q'.length := mrg_len ..
 have c1 := mergeO_ok ordO fst2 n n' o o' (fun d hd => by rcases hd with hd | hd; exact (h.pay.ho d hd).eta; exact (h'.pay.ho d hd).eta) (fun x y hx hy => (h.pay.ho x hx).eta)
  (fun x y hx hy => addO_ok x y (h.pay.ho x hx) (h'.pay.ho y hy)) (fun x y hx hy => firstO_ok x y (h.pay.ho x hx) (h'.pay.ho y hy)) (by omega) (by omega)
 have c2 := mergeK_ok ordK fst2 t t' q q' (fun d hd => by rcases hd with hd | hd; exact (h.pay.hq d hd).eta; exact (h'.pay.hq d hd).eta) (fun x y hx hy => (h.pay.hq x hx).eta)
  (fun x y hx hy => addK_ok x y (h.pay.hq x hx) (h'.pay.hq y hy)) (fun x y hx hy => firstK_ok x y (h.pay.hq x hx) (h'.pay.hq y hy)) (by omega) (by omega)
 have c3 := mergeP_ok ordP unD m m' p p' (fun d hd => by rcases hd with hd | hd; exact (h.pay.hp d hd).1.eta; exact (h'.pay.hp d hd).1.eta)
  (fun x y hx hy => (unD_pg x y (h.pay.hp x hx).1 (h'.pay.hp y hy).1 (by have := h.el x hx; omega) (by have := h'.el y hy; omega)).1.eta)
  (fun x y hx hy => addP_ok x y (h.pay.hp x hx).1 (h'.pay.hp y hy).1)
  (fun x y hx hy => unD_ok x y (h.pay.hp x hx).1 (h'.pay.hp y hy).1 (by have := h.el x hx; omega) (by have := h'.el y hy; omega)) (by omega) (by omega)
 have c4 := twin_ok false false false (mO o o') (mP p p') (mK q q') (fun h => by cases h) (fun h => by cases h) (by omega) (by omega) (by omega)
  (mrg_all p p' (fun d hd => ⟨(h.pay.hp d hd).1, h.nn d hd, by have := h.el d hd; omega⟩) (fun d hd => ⟨(h'.pay.hp d hd).1, h'.nn d hd, by have := h'.el d hd; omega⟩)
   fun x hx y hy => by
    obtain ⟨g1, g2, _⟩ := unD_pg x y (h.pay.hp x hx).1 (h'.pay.hp y hy).1 (by have := h.el x hx; omega) (by have := h'.el y hy; omega)
    exact ⟨g1, g2⟩)
 refine s_local_add 0 n o m p t q n' o' m' p' t' q' ?_
 unfold local_add
 simp (disch := omega) only [gds, c1, c2, c3, c4]
theorem add_ok : ∃ m'', Cl ty tab 45 [payD n m t o p q, payD n' m' t' o' p' q'] = some [payD false m'' false (mO o o') (mP p p') (mK q q')] := ⟨_, add_is n m t n' m' t' o p q o' p' q' h h'⟩
end
theorem apply_bad (n m t : Bool) (o p q : List D) (x : D) (hp : Pay o p q) (hx : Xg x) (he : firstN [payC o p q, xC x] ≠ 0) : Cl ty tab 21 [payD n m t o p q, x] = some [nilPay, .int .i64 (firstN [payC o p q, xC x])] := by
 have e : D.agg (etaCells ks0 x 0) = x := hx.eta
 have hf := filter_bad n m t o p q x hp hx he
 have := s_local_Apply 0 n o m p t q x (r := [nilPay, .int .i64 (firstN [payC o p q, xC x])]) ?_
 · rwa [e] at this
 unfold local_Apply
 simp (disch := omega) only [gds, e, hf, he, ne_eq, not_false_eq_true]
section
variable (n m t : Bool) (o p q : List D) (x : D) (hp : Pay o p q) (hx : Xg x) (hn : n = true → o = []) (hm : m = true → p = []) (ht : t = true → q = []) (hN : NnL p) (hN2 : NnL (x.cell 4).els)
include hp hx hn hm ht hN hN2
theorem apply_is (h1 : payC o p q = 0) (h2 : xC x = 0) : Sh o p q ∧ Sh (x.cell 3).els (x.cell 4).els (x.cell 5).els ∧ Cl ty tab 21 [payD n m t o p q, x] = some (if payC (mO (o.filter fun d => !goneO x d) (x.cell 3).els) (mP (p.filter fun d => !goneP x d) (x.cell 4).els) (mK (q.filter fun d => !goneK x d) (x.cell 5).els) = 0 then
   [payD false (mP (p.filter fun d => !goneP x d) (x.cell 4).els).isEmpty false (mO (o.filter fun d => !goneO x d) (x.cell 3).els) (mP (p.filter fun d => !goneP x d) (x.cell 4).els) (mK (q.filter fun d => !goneK x d) (x.cell 5).els), .int .i64 0] else [nilPay, .int .i64 4]) := by
 have e : D.agg (etaCells ks0 x 0) = x := hx.eta
 obtain ⟨n', m', t', hf⟩ := filter_good n m t o p q x hp hx h1 h2 hn hm ht hN
 have s1 := sh_of hp h1 hN
 have s2 := sh_of hx.pay (xC_zero h2).2.2.2 hN2
 have s3 := sh_filter (fun d => !goneO x d) (fun d => !goneP x d) (fun d => !goneK x d) s1
 have ha := add_is n' m' t' (x.cell 3).nb (x.cell 4).nb (x.cell 5).nb _ _ _ _ _ _ s3 s2
 have hc := diffCheck_ok false (mP (p.filter fun d => !goneP x d) (x.cell 4).els).isEmpty false _ _ _ (pay_mrg _ _ _ _ _ _ s3 s2)
 refine ⟨s1, s2, ?_⟩
 have key := s_local_Apply 0 n o m p t q x (r := if payC (mO (o.filter fun d => !goneO x d) (x.cell 3).els) (mP (p.filter fun d => !goneP x d) (x.cell 4).els) (mK (q.filter fun d => !goneK x d) (x.cell 5).els) = 0 then
   [payD false (mP (p.filter fun d => !goneP x d) (x.cell 4).els).isEmpty false (mO (o.filter fun d => !goneO x d) (x.cell 3).els) (mP (p.filter fun d => !goneP x d) (x.cell 4).els) (mK (q.filter fun d => !goneK x d) (x.cell 5).els), .int .i64 0] else [nilPay, .int .i64 4]) ?_
 · rwa [e] at key
 unfold local_Apply
 by_cases h3 : payC (mO (o.filter fun d => !goneO x d) (x.cell 3).els) (mP (p.filter fun d => !goneP x d) (x.cell 4).els) (mK (q.filter fun d => !goneK x d) (x.cell 5).els) = 0
 · simp (disch := omega) only [gds, e, hf, ha, hc, h3, ne_eq, not_true_eq_false]
 · simp (disch := omega) only [gds, e, hf, ha, hc, h3, ne_eq, not_true_eq_false, not_false_eq_true]
theorem apply_hd (h1 : payC o p q = 0) (h2 : xC x = 0) : ∃ m'' : Bool, Sh o p q ∧ Sh (x.cell 3).els (x.cell 4).els (x.cell 5).els ∧ Cl ty tab 21 [payD n m t o p q, x] = some (if payC (mO (o.filter fun d => !goneO x d) (x.cell 3).els) (mP (p.filter fun d => !goneP x d) (x.cell 4).els) (mK (q.filter fun d => !goneK x d) (x.cell 5).els) = 0 then
   [payD false m'' false (mO (o.filter fun d => !goneO x d) (x.cell 3).els) (mP (p.filter fun d => !goneP x d) (x.cell 4).els) (mK (q.filter fun d => !goneK x d) (x.cell 5).els), .int .i64 0] else [nilPay, .int .i64 4]) :=
 let ⟨a, b, c⟩ := apply_is n m t o p q x hp hx hn hm ht hN hN2 h1 h2
 ⟨_, a, b, c⟩
theorem apply_good (h1 : payC o p q = 0) (h2 : xC x = 0) (h3 : payC (mO (o.filter fun d => !goneO x d) (x.cell 3).els) (mP (p.filter fun d => !goneP x d) (x.cell 4).els) (mK (q.filter fun d => !goneK x d) (x.cell 5).els) = 0) :
  ∃ m'' : Bool, Cl ty tab 21 [payD n m t o p q, x] = some [payD false m'' false (mO (o.filter fun d => !goneO x d) (x.cell 3).els) (mP (p.filter fun d => !goneP x d) (x.cell 4).els) (mK (q.filter fun d => !goneK x d) (x.cell 5).els), .int .i64 0] := by
 obtain ⟨m'', _, _, h⟩ := apply_hd n m t o p q x hp hx hn hm ht hN hN2 h1 h2
 rw [if_pos h3] at h
 exact ⟨m'', h⟩
end
end Go.Proofs.YtapfhcnigmighaaGreat.Own
