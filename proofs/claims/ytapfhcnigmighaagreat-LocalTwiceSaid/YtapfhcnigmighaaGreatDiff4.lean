import Derived.Test.YtapfhcnigmighaaGreatDiff3
set_option linter.unusedVariables false
set_option linter.unusedSimpArgs false
namespace Go.Proofs.YtapfhcnigmighaaGreat.Own
open Go Go.Proofs.YtapfhcnigmighaaGreat.GD
abbrev payD (n m t : Bool) (o p q : List D) : D := .agg [.sl 58 n o, .sl 84 m p, .sl 64 t q]
abbrev payV (n m t : Bool) (o p q : List D) : D := .pv [.sl 58 n o, .sl 84 m p, .sl 64 t q]
section
variable (k : Nat) (hk : 9223372036854775808 < k) (n m t : Bool) (o p q : List D) (h : Pay o p q)
include hk h
end
theorem great34_ok (a b : Int) (hb : 0 ≤ b ∧ b ≤ 100000) : Cl ty tab 51 [.int .i64 a, .int .i64 b] = some [.bool (decide ((30 < a ∧ a ≤ b) ∨ b + 10 < a))] := by
 refine s_gatepathref34_great 0 _ _ ?_
 unfold gatepathref34_great
 by_cases h1 : 30 < a
 · by_cases h2 : a ≤ b
   · simp (disch := omega) only [gds, h1, h2, true_and, true_or]
   · simp (disch := omega) only [gds, h1, h2, false_or, and_false]
 · simp (disch := omega) only [gds, h1, false_and, false_or]
structure Small (o p q : List D) : Prop where
 ho : o.length ≤ 1010
 hp : p.length ≤ 310
 hq : q.length ≤ 110
 els : ∀ d, d ∈ p → (d.cell 1).els.length ≤ 60
theorem Great34_ok (n m t : Bool) (o p q : List D) (h : Pay o p q) : ∃ b, Cl ty tab 16 [payD n m t o p q] = some [.bool b] ∧ (b = false → Small o p q) := by
 obtain ⟨k, hk⟩ := rounds
 have hn := h.np
 by_cases h1 : (30 < (o.length : Int) ∧ (o.length : Int) ≤ 1000) ∨ (1000 : Int) + 10 < (o.length : Int)
 · refine ⟨true, s_gatepathref34_Great k _ _ _ _ _ _ ?_, fun h => by cases h⟩
   unfold gatepathref34_Great
   simp (disch := omega) only [gds, great34_ok, h1]
 by_cases h2 : (30 < (p.length : Int) ∧ (p.length : Int) ≤ 300) ∨ (300 : Int) + 10 < (p.length : Int)
 · refine ⟨true, s_gatepathref34_Great k _ _ _ _ _ _ ?_, fun h => by cases h⟩
   unfold gatepathref34_Great
   simp (disch := omega) only [gds, great34_ok, h1, h2]
 by_cases h3 : (30 < (q.length : Int) ∧ (q.length : Int) ≤ 100) ∨ (100 : Int) + 10 < (q.length : Int)
 · refine ⟨true, s_gatepathref34_Great k _ _ _ _ _ _ ?_, fun h => by cases h⟩
   unfold gatepathref34_Great
   simp (disch := omega) only [gds, great34_ok, h1, h2, h3]
 have hx := all_loop (F := gatepathref34_Great.b0 (Cl ty tab) k) p.length (fun i => decide ((((p.getD i .undef).cell 1).els).length ≤ 60)) (fun i => [.int .i64 i, payV n m t o p q]) (some [.bool true]) (some [.bool false]) (fun i hi again => ?_) (fun again => ?_) k (by omega)
 · obtain ⟨b, hb, hb2⟩ := hx
   refine ⟨!b, s_gatepathref34_Great k _ _ _ _ _ _ ?_, fun hf => ?_⟩
   · unfold gatepathref34_Great
     simp only [Int.natCast_zero] at hb
     simp (disch := omega) only [gds, great34_ok, h1, h2, h3, hb]
     cases b <;> rfl
   · have := hb2.1 (by simpa using hf)
     refine ⟨by omega, by omega, by omega, fun d hd => ?_⟩
     obtain ⟨i, hi, rfl⟩ := List.getElem_of_mem hd
     have := this i hi
     rw [getD_get hi] at this
     simpa using this
 · unfold gatepathref34_Great.b0
   by_cases h4 : 60 < (p[i].cell 1).els.length
   · have h5 : ¬ (p[i].cell 1).els.length ≤ 60 := by omega
     simp (disch := omega) only [gds, getD_get, h4, h5]
   · have h5 : (p[i].cell 1).els.length ≤ 60 := by omega
     simp (disch := omega) only [gds, getD_get, h4, h5, Int.natCast_add, Int.natCast_one]
 · unfold gatepathref34_Great.b0
   simp (disch := omega) only [gds]
def pk (d : D) : Int × List D := (custP d, (d.cell 1).els)
theorem samePath_ok (a b : D) (ha : Pg a) (hb : Pg b) : ∃ r, Cl ty tab 67 [a, b] = some [.bool r] ∧ (r = true ↔ pk a = pk b) := by
 obtain ⟨k, hk⟩ := rounds
 have key : ∀ r, gatepathref34_SamePath (Cl ty tab) k (custP a) (a.cell 1).nb (a.cell 1).els (custP b) (b.cell 1).nb (b.cell 1).els = some [.bool r] → Cl ty tab 67 [a, b] = some [.bool r] := fun r hr => by
  have := s_gatepathref34_SamePath k (custP a) (a.cell 1).nb (a.cell 1).els (custP b) (b.cell 1).nb (b.cell 1).els hr
  unfold custP at this
  rwa [ha.eta, hb.eta] at this
 unfold gatepathref34_SamePath at key
 have hla := ha.len
 obtain ⟨La, ea, _⟩ := ha.els
 obtain ⟨Lb, eb, _⟩ := hb.els
 by_cases h1 : custP a = custP b
 case neg =>
  refine ⟨false, key _ ?_, by simp [pk, h1]⟩
  simp (disch := omega) only [gds, h1, ne_eq, not_false_eq_true]
 by_cases h2 : (a.cell 1).els.length = (b.cell 1).els.length
 case neg =>
  refine ⟨false, key _ ?_, ?_⟩
  · have : ¬ (((a.cell 1).els.length : Nat) : Int) = (((b.cell 1).els.length : Nat) : Int) := by omega
    simp (disch := omega) only [gds, h1, this, ne_eq, not_false_eq_true, not_true_eq_false]
  · simp only [pk, Prod.mk.injEq]
    constructor
    · intro h; cases h
    · rintro ⟨_, h⟩; exact absurd (by rw [h]) h2
 have hx := all_loop (F := gatepathref34_SamePath.b0 (Cl ty tab) k) (a.cell 1).els.length (fun i => decide ((((a.cell 1).els.getD i .undef).cell 0).i = (((b.cell 1).els.getD i .undef).cell 0).i))
  (fun i => [.int .i64 i, .pv [.int .u32 (custP a), .sl 51 (a.cell 1).nb (a.cell 1).els], .pv [.int .u32 (custP b), .sl 51 (b.cell 1).nb (b.cell 1).els]]) (some [.bool false]) (some [.bool true]) (fun i hi again => ?_) (fun again => ?_) k (by omega)
 · obtain ⟨r, hr, hr2⟩ := hx
   refine ⟨r, key _ ?_, ?_⟩
   · simp only [Int.natCast_zero, h1] at hr
     have : (((a.cell 1).els.length : Nat) : Int) = (((b.cell 1).els.length : Nat) : Int) := by omega
     simp (disch := omega) only [gds, h1, this, hr, ne_eq, not_true_eq_false]
     cases r <;> rfl
   · rw [hr2]
     simp only [pk, h1, Prod.mk.injEq, true_and, decide_eq_true_eq]
     constructor
     · intro h
       apply List.ext_getElem h2
       intro i h3 h4
       have := h i h3
       rw [getD_get h3, getD_get h4] at this
       simp only [ea, eb, List.getElem_map] at this ⊢
       simpa using this
     · intro h i hi; rw [h]
 · unfold gatepathref34_SamePath.b0
   by_cases h3 : (((a.cell 1).els.getD i .undef).cell 0).i = (((b.cell 1).els.getD i .undef).cell 0).i
   · simp (disch := omega) only [gds, h3, ne_eq, not_true_eq_false, Int.natCast_add, Int.natCast_one]
   · simp (disch := omega) only [gds, h3, ne_eq, not_false_eq_true, Int.natCast_add, Int.natCast_one]
 · unfold gatepathref34_SamePath.b0
   simp (disch := omega) only [gds]
theorem all_eq_iff {l m : List D} (h : l.length = m.length) {p : D → D → Prop} (hp : ∀ a b, a ∈ l → b ∈ m → (p a b ↔ a = b)) : (∀ i, i < l.length → p (l.getD i .undef) (m.getD i .undef)) ↔ l = m := by
 constructor
 · intro H
   apply List.ext_getElem h
   intro i h1 h2
   have := H i h1
   rw [getD_get h1, getD_get h2] at this
   exact (hp _ _ (List.getElem_mem h1) (List.getElem_mem h2)).1 this
 · rintro rfl i hi
   rw [getD_get hi]
   exact (hp _ _ (List.getElem_mem hi) (List.getElem_mem hi)).2 rfl
theorem all_pk_iff {l m : List D} (h : l.length = m.length) : (∀ i, i < l.length → pk (l.getD i .undef) = pk (m.getD i .undef)) ↔ l.map pk = m.map pk := by
 constructor
 · intro H
   apply List.ext_getElem (by simpa using h)
   intro i h1 h2
   simp only [List.length_map] at h1 h2
   have := H i h1
   rw [getD_get h1, getD_get h2] at this
   simpa using this
 · intro H i hi
   have hi2 : i < m.length := by omega
   rw [getD_get hi, getD_get hi2]
   have e1 : (l.map pk)[i]'(by simpa using hi) = pk l[i] := by simp
   have e2 : (m.map pk)[i]'(by simpa using hi2) = pk m[i] := by simp
   rw [← e1, ← e2]
   simp only [H]
section
variable (k : Nat) (hk : 9223372036854775808 < k) (n m t n' m' t' : Bool) (o p q o' p' q' : List D) (h : Pay o p q) (h' : Pay o' p' q')
include hk h h'
theorem same34b2 (hl : q.length = q'.length) : ∃ r : Bool, iter k (gatepathref34_Same.b2 (Cl ty tab) k) [.int .i64 0, payV n m t o p q, payV n' m' t' o' p' q'] = some [.bool r] ∧ (r = true ↔ q = q') := by
 have hn := h.nq
 have hx := all_loop (F := gatepathref34_Same.b2 (Cl ty tab) k) q.length (fun i => eqCells (kKsE (q.getD i .undef) 0) (kKsE (q'.getD i .undef) 0)) (fun i => [.int .i64 i, payV n m t o p q, payV n' m' t' o' p' q']) (some [.bool false]) (some [.bool true]) (fun i hi again => ?_) (fun again => ?_) k (by omega)
 · obtain ⟨r, hr, hr2⟩ := hx
   refine ⟨r, ?_, hr2.trans ?_⟩
   · simp only [Int.natCast_zero] at hr
     rw [hr]; cases r <;> rfl
   · exact all_eq_iff hl (p := fun a b => eqCells (kKsE a 0) (kKsE b 0) = true) fun a b ha hb => eqCells_eta (ks := kKs) (by decide) (h.hq a ha).fit (h'.hq b hb).fit
 · unfold gatepathref34_Same.b2
   have hi' : i < q'.length := by omega
   cases hc : eqCells (kKsE (q.getD i .undef) 0) (kKsE (q'.getD i .undef) 0)
   · simp (disch := omega) only [gds, hc, Int.natCast_add, Int.natCast_one]
   · simp (disch := omega) only [gds, hc, Int.natCast_add, Int.natCast_one]
 · unfold gatepathref34_Same.b2
   simp (disch := omega) only [gds]
theorem same34b1 (hp : p.length = p'.length) (hl : q.length = q'.length) : ∃ r : Bool, iter k (gatepathref34_Same.b1 (Cl ty tab) k) [.int .i64 0, payV n m t o p q, payV n' m' t' o' p' q'] = some [.bool r] ∧ (r = true ↔ p.map pk = p'.map pk ∧ q = q') := by
 have hn := h.np
 obtain ⟨r2, h2, h3⟩ := same34b2 k hk n m t n' m' t' o p q o' p' q' h h' hl
 have hs : ∀ i, i < p.length → ∃ r, Cl ty tab 67 [p.getD i .undef, p'.getD i .undef] = some [.bool r] ∧ (r = true ↔ pk (p.getD i .undef) = pk (p'.getD i .undef)) := fun i hi => by
  have hi' : i < p'.length := by omega
  rw [getD_get hi, getD_get hi']
  exact samePath_ok _ _ (h.hp _ (List.getElem_mem hi)).1 (h'.hp _ (List.getElem_mem hi')).1
 have ht : ∀ i, ∃ r : Bool, i < p.length → Cl ty tab 67 [p.getD i .undef, p'.getD i .undef] = some [.bool r] ∧ (r = true ↔ pk (p.getD i .undef) = pk (p'.getD i .undef)) := fun i => by
  by_cases hi : i < p.length
  · obtain ⟨r, hr⟩ := hs i hi
    exact ⟨r, fun _ => hr⟩
  · exact ⟨true, fun h => absurd h hi⟩
 obtain ⟨f, hf⟩ := Classical.axiomOfChoice ht
 have hx := all_loop (F := gatepathref34_Same.b1 (Cl ty tab) k) p.length f (fun i => [.int .i64 i, payV n m t o p q, payV n' m' t' o' p' q']) (some [.bool false]) (some [.bool r2]) (fun i hi again => ?_) (fun again => ?_) k (by omega)
 · obtain ⟨r, hr, hr2⟩ := hx
   refine ⟨r && r2, ?_, ?_⟩
   · simp only [Int.natCast_zero] at hr
     rw [hr]; cases r <;> rfl
   · rw [zq3, hr2, h3, ← all_pk_iff hp]
     refine and_congr ?_ Iff.rfl
     exact forall_congr' fun i => forall_congr' fun hi => (hf i hi).2
 · unfold gatepathref34_Same.b1
   have hi' : i < p'.length := by omega
   have e0 : D.agg [.int .u32 ((p.getD i .undef).cell 0).i, .sl 51 ((p.getD i .undef).cell 1).nb ((p.getD i .undef).cell 1).els] = p.getD i .undef := by
    rw [getD_get hi]; exact (h.hp _ (List.getElem_mem hi)).1.eta
   have e1 : D.agg [.int .u32 ((p'.getD i .undef).cell 0).i, .sl 51 ((p'.getD i .undef).cell 1).nb ((p'.getD i .undef).cell 1).els] = p'.getD i .undef := by
    rw [getD_get hi']; exact (h'.hp _ (List.getElem_mem hi')).1.eta
   have c0 := (hf i hi).1
   cases hc : f i
   · simp (disch := omega) only [gds, e0, e1, c0, hc, Int.natCast_add, Int.natCast_one]
   · simp (disch := omega) only [gds, e0, e1, c0, hc, Int.natCast_add, Int.natCast_one]
 · unfold gatepathref34_Same.b1
   simp (disch := omega) only [gds, h2]
theorem same34b0 (ho : o.length = o'.length) (hp : p.length = p'.length) (hl : q.length = q'.length) : ∃ r : Bool, iter k (gatepathref34_Same.b0 (Cl ty tab) k) [.int .i64 0, payV n m t o p q, payV n' m' t' o' p' q'] = some [.bool r] ∧ (r = true ↔ o = o' ∧ p.map pk = p'.map pk ∧ q = q') := by
 have hn := h.no
 obtain ⟨r2, h2, h3⟩ := same34b1 k hk n m t n' m' t' o p q o' p' q' h h' hp hl
 have hx := all_loop (F := gatepathref34_Same.b0 (Cl ty tab) k) o.length (fun i => eqCells (etaCells ks1 (o.getD i .undef) 0) (etaCells ks1 (o'.getD i .undef) 0)) (fun i => [.int .i64 i, payV n m t o p q, payV n' m' t' o' p' q']) (some [.bool false]) (some [.bool r2]) (fun i hi again => ?_) (fun again => ?_) k (by omega)
 · obtain ⟨r, hr, hr2⟩ := hx
   refine ⟨r && r2, ?_, ?_⟩
   · simp only [Int.natCast_zero] at hr
     rw [hr]; cases r <;> rfl
   · rw [zq3, hr2, h3]
     refine and_congr ?_ Iff.rfl
     exact all_eq_iff ho (p := fun a b => eqCells (etaCells oKs a 0) (etaCells oKs b 0) = true) fun a b ha hb => eqCells_eta (ks := oKs) (by decide) (h.ho a ha).fit (h'.ho b hb).fit
 · unfold gatepathref34_Same.b0
   have hi' : i < o'.length := by omega
   cases hc : eqCells (etaCells ks1 (o.getD i .undef) 0) (etaCells ks1 (o'.getD i .undef) 0)
   · simp (disch := omega) only [gds, hc, Int.natCast_add, Int.natCast_one]
   · simp (disch := omega) only [gds, hc, Int.natCast_add, Int.natCast_one]
 · unfold gatepathref34_Same.b0
   simp (disch := omega) only [gds, h2]
omit hk in
theorem same34_ok : ∃ r : Bool, Cl ty tab 23 [payD n m t o p q, payD n' m' t' o' p' q'] = some [.bool r] ∧ (r = true ↔ o = o' ∧ p.map pk = p'.map pk ∧ q = q') := by
 obtain ⟨k, hk⟩ := rounds
 by_cases h1 : o.length = o'.length
 case neg =>
  refine ⟨false, s_gatepathref34_Same k _ _ _ _ _ _ _ _ _ _ _ _ ?_, ?_⟩
  · unfold gatepathref34_Same
    have : ¬ ((o.length : Nat) : Int) = ((o'.length : Nat) : Int) := by omega
    simp (disch := omega) only [gds, this, ne_eq, not_false_eq_true]
  · constructor
    · intro h; cases h
    · rintro ⟨rfl, _⟩; exact absurd rfl h1
 by_cases h2 : p.length = p'.length
 case neg =>
  refine ⟨false, s_gatepathref34_Same k _ _ _ _ _ _ _ _ _ _ _ _ ?_, ?_⟩
  · unfold gatepathref34_Same
    have e1 : ((o.length : Nat) : Int) = ((o'.length : Nat) : Int) := by omega
    have : ¬ ((p.length : Nat) : Int) = ((p'.length : Nat) : Int) := by omega
    simp (disch := omega) only [gds, e1, this, ne_eq, not_false_eq_true, not_true_eq_false]
  · constructor
    · intro h; cases h
    · rintro ⟨_, e, _⟩
      have := congrArg List.length e
      simp at this
      exact absurd this h2
 by_cases h3 : q.length = q'.length
 case neg =>
  refine ⟨false, s_gatepathref34_Same k _ _ _ _ _ _ _ _ _ _ _ _ ?_, ?_⟩
  · unfold gatepathref34_Same
    have e1 : ((o.length : Nat) : Int) = ((o'.length : Nat) : Int) := by omega
    have e2 : ((p.length : Nat) : Int) = ((p'.length : Nat) : Int) := by omega
    have : ¬ ((q.length : Nat) : Int) = ((q'.length : Nat) : Int) := by omega
    simp (disch := omega) only [gds, e1, e2, this, ne_eq, not_false_eq_true, not_true_eq_false]
  · constructor
    · intro h; cases h
    · rintro ⟨_, _, rfl⟩; exact absurd rfl h3
 obtain ⟨r, hr, hr2⟩ := same34b0 k hk n m t n' m' t' o p q o' p' q' h h' h1 h2 h3
 refine ⟨r, s_gatepathref34_Same k _ _ _ _ _ _ _ _ _ _ _ _ ?_, hr2⟩
 unfold gatepathref34_Same
 have e1 : ((o.length : Nat) : Int) = ((o'.length : Nat) : Int) := by omega
 have e2 : ((p.length : Nat) : Int) = ((p'.length : Nat) : Int) := by omega
 have e3 : ((q.length : Nat) : Int) = ((q'.length : Nat) : Int) := by omega
 simp (disch := omega) only [gds, e1, e2, e3, hr, ne_eq, not_true_eq_false]
end
end Go.Proofs.YtapfhcnigmighaaGreat.Own
