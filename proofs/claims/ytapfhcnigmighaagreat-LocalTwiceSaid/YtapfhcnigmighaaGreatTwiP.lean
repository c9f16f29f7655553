import Derived.Test.YtapfhcnigmighaaGreatSrt
import Derived.Test.YtapfhcnigmighaaGreatApply
import Derived.Test.YtapfhcnigmighaaGreatUniP
set_option linter.unusedVariables false
set_option linter.unusedSimpArgs false
namespace Go.Proofs.YtapfhcnigmighaaGreat.Own
open Go Go.Proofs.YtapfhcnigmighaaGreat.GD
section
variable (key : D → List Int) (n : Nat) (hk : ∀ d, (key d).length = n)
include hk
theorem srt_uniq {l : List D} (h : Srt key l) {x y : D} (hx : x ∈ l) (hy : y ∈ l) (e : key x = key y) : x = y := by
 have key0 : cmpL (key x) (key y) = 0 := (key_zero key n hk).2 e
 obtain ⟨i, hi, rfl⟩ := List.mem_iff_getElem.1 hx
 obtain ⟨j, hj, rfl⟩ := List.mem_iff_getElem.1 hy
 rcases Nat.lt_trichotomy i j with c | c | c
 · have := List.pairwise_iff_getElem.1 h i j hi hj c; omega
 · subst c; rfl
 · have := List.pairwise_iff_getElem.1 h j i hj hi c
   rw [cmpL_neg] at key0
   omega
theorem twi_set (Q : D → Prop) (hi : ∀ x y, Q x → Q y → key x = key y → x = y) {a b : List D} (ha : Srt key a) (hb : Srt key b) (qa : ∀ d, d ∈ a → Q d) (qb : ∀ d, d ∈ b → Q d) (g : D → Bool) :
  mrg (byK key) fst2 ((mrg (byK key) fst2 (a.filter g) b).filter g) b = mrg (byK key) fst2 (a.filter g) b := by
 obtain ⟨s1, m1⟩ := mrg_set key n hk (List.Pairwise.filter g ha) hb fun x y hx hy e => hi x y (qa x (List.mem_filter.1 hx).1) (qb y hy) e
 have qm : ∀ d, d ∈ mrg (byK key) fst2 (a.filter g) b → Q d := fun d hd => by
  rcases (m1 d).1 hd with h | h
  · exact qa d (List.mem_filter.1 h).1
  · exact qb d h
 obtain ⟨s2, m2⟩ := mrg_set key n hk (a := (mrg (byK key) fst2 (a.filter g) b).filter g) (List.Pairwise.filter g s1) hb fun x y hx hy e => hi x y (qm x (List.mem_filter.1 hx).1) (qb y hy) e
 refine srt_ext key n hk s2 s1 fun d => (m2 d).trans ?_
 rw [List.mem_filter]
 refine ⟨fun h => ?_, fun h => ?_⟩
 · rcases h with h | h
   · exact h.1
   · exact (m1 d).2 (.inr h)
 · rcases (m1 d).1 h with h' | h'
   · exact .inl ⟨h, (List.mem_filter.1 h').2⟩
   · exact .inr h'
section
variable (e : D → D → D) (he : ∀ x y, key x = key y → key (e x y) = key x)
include he
theorem twi_key {a b : List D} (ha : Srt key a) (hb : Srt key b) (g : D → Bool) (hg : ∀ x y, key x = key y → g x = g y) (e1 : ∀ y, y ∈ b → e y y = y) (e2 : ∀ x y, x ∈ a → y ∈ b → key x = key y → e (e x y) y = e x y) :
  mrg (byK key) e ((mrg (byK key) e (a.filter g) b).filter g) b = mrg (byK key) e (a.filter g) b := by
 obtain ⟨s1, m1⟩ := mrg_spec key n hk e he _ (a.filter g) b (Nat.le_refl _) (List.Pairwise.filter g ha) hb
 obtain ⟨s2, m2⟩ := mrg_spec key n hk e he _ ((mrg (byK key) e (a.filter g) b).filter g) b (Nat.le_refl _) (List.Pairwise.filter g s1) hb
 refine srt_ext key n hk s2 s1 fun d => (m2 d).trans ⟨?_, fun h => ?_⟩
 · rintro (⟨h1, h2⟩ | ⟨h1, h2⟩ | ⟨x, hx, y, hy, hxy, rfl⟩)
   · exact (List.mem_filter.1 h1).1
   · refine (m1 d).2 (.inr (.inl ⟨h1, fun x hx hxk => ?_⟩))
     have hk2 : key (e x d) = key d := by rw [he x d hxk]; exact hxk
     refine h2 (e x d) (List.mem_filter.2 ⟨(m1 _).2 (.inr (.inr ⟨x, hx, d, h1, hxk, rfl⟩)), ?_⟩) hk2
     rw [hg (e x d) x (he x d hxk)]
     exact (List.mem_filter.1 hx).2
   · obtain ⟨hx1, hx2⟩ := List.mem_filter.1 hx
     rcases (m1 x).1 hx1 with ⟨_, h2⟩ | ⟨h1, _⟩ | ⟨u, hu, v, hv, huv, rfl⟩
     · exact absurd hxy.symm (h2 y hy)
     · have := srt_uniq key n hk hb h1 hy hxy
       subst this
       rw [e1 x hy]; exact hx1
     · have := srt_uniq key n hk hb hv hy (by rw [he u v huv] at hxy; rw [← huv]; exact hxy)
       subst this
       rw [e2 u v (List.mem_filter.1 hu).1 hv huv]; exact hx1
 · rcases (m1 d).1 h with ⟨h1, h2⟩ | ⟨h1, h2⟩ | ⟨x, hx, y, hy, hxy, rfl⟩
   · exact .inl ⟨List.mem_filter.2 ⟨h, (List.mem_filter.1 h1).2⟩, h2⟩
   · by_cases c : g d = true
     · exact .inr (.inr ⟨d, List.mem_filter.2 ⟨h, c⟩, d, h1, rfl, (e1 d h1).symm⟩)
     · refine .inr (.inl ⟨h1, fun x hx hxk => c ?_⟩)
       rw [← hg x d hxk]
       exact (List.mem_filter.1 hx).2
   · refine .inr (.inr ⟨e x y, List.mem_filter.2 ⟨h, ?_⟩, y, hy, by rw [he x y hxy]; exact hxy, (e2 x y (List.mem_filter.1 hx).1 hy hxy).symm⟩)
     rw [hg (e x y) x (he x y hxy)]
     exact (List.mem_filter.1 hx).2
end
end
theorem int_ext : ∀ {l m : List Int}, l.Pairwise (· < ·) → m.Pairwise (· < ·) → (∀ d, d ∈ l ↔ d ∈ m) → l = m
 | [], [], _, _, _ => rfl
 | [], y :: m, _, _, h => by have := (h y).2 (List.mem_cons_self ..); cases this
 | x :: l, [], _, _, h => by have := (h x).1 (List.mem_cons_self ..); cases this
 | x :: l, y :: m, hl, hm, h => by
  obtain ⟨l1, l2⟩ := List.pairwise_cons.1 hl
  obtain ⟨m1, m2⟩ := List.pairwise_cons.1 hm
  have e : x = y := by
   rcases List.mem_cons.1 ((h x).1 (List.mem_cons_self ..)) with e | h1
   · exact e
   · rcases List.mem_cons.1 ((h y).2 (List.mem_cons_self ..)) with e | h2
     · exact e.symm
     · have a1 := m1 x h1
       have a2 := l1 y h2
       omega
  subst e
  rw [int_ext l2 m2 fun d => ?_]
  constructor
  · intro hd
    rcases List.mem_cons.1 ((h d).1 (List.mem_cons_of_mem _ hd)) with e | h1
    · have := l1 d hd; omega
    · exact h1
  · intro hd
    rcases List.mem_cons.1 ((h d).2 (List.mem_cons_of_mem _ hd)) with e | h1
    · have := m1 d hd; omega
    · exact h1
theorem union_lt (L : List Int) : (unionL L).Pairwise (· < ·) := by
 have hn : (unionL L).Nodup := by
  unfold unionL
  refine (List.mergeSort_perm _ _).nodup_iff.2 ?_
  unfold unionK
  split
  · exact (nodup_keysOf List.nodup_nil).erase _
  · exact nodup_keysOf List.nodup_nil
 have hs : (unionL L).Pairwise fun a b => a ≤ b := by
  have := List.pairwise_mergeSort (le := fun a b : Int => decide (a ≤ b)) (fun a b c h1 h2 => by simp at h1 h2 ⊢; omega) (fun a b => by simp; omega) (unionK L)
  exact this.imp fun h => by simpa using h
 exact hs.imp₂ (fun a b h1 h2 => by omega) hn
theorem union_nb (L : List Int) : (unionK L).isEmpty = (unionL L).isEmpty := by
 unfold unionL
 have := List.length_mergeSort (le := fun x y : Int => decide (x ≤ y)) (unionK L)
 cases h1 : unionK L <;> cases h2 : (unionK L).mergeSort (fun x y => decide (x ≤ y)) <;> rw [h1] at this h2 <;> rw [h2] at this <;> simp_all
theorem unD_form (x y : D) : unD x y = .agg [.int .u32 (custP x), .sl 51 (unionL ((x.cell 1).els.map D.i ++ (y.cell 1).els.map D.i)).isEmpty ((unionL ((x.cell 1).els.map D.i ++ (y.cell 1).els.map D.i)).map (D.int .u32))] := by
 unfold unD
 rw [union_nb]
theorem unD_els (x y : D) : ((unD x y).cell 1).els.map D.i = unionL ((x.cell 1).els.map D.i ++ (y.cell 1).els.map D.i) := by
 show ((unionL _).map (D.int .u32)).map D.i = _
 rw [List.map_map]; exact (List.map_congr_left fun x _ => rfl).trans (List.map_id _)
theorem union_again (A B : List Int) : unionL (unionL (A ++ B) ++ B) = unionL (A ++ B) := by
 refine int_ext (union_lt _) (union_lt _) fun v => ?_
 rw [mem_union, List.mem_append, mem_union, List.mem_append]
 constructor
 · rintro ⟨h1, h2⟩
   have hv : v ∈ A ∨ v ∈ B := by
    rcases h1 with h1 | h1
    · exact h1.1
    · exact .inr h1
   refine ⟨hv, ?_⟩
   rcases h2 with h2 | h2
   · exact .inl h2
   · by_cases c : ∀ z, z ∈ A ++ B → z = 0
     · exact .inr c
     · refine .inl fun hv0 => c fun z hz => ?_
       by_cases c0 : z = 0
       · exact c0
       · exact h2 z (List.mem_append_left _ (mem_union.2 ⟨hz, .inl c0⟩))
 · rintro ⟨h1, h2⟩
   refine ⟨.inl ⟨h1, h2⟩, ?_⟩
   rcases h2 with h2 | h2
   · exact .inl h2
   · refine .inr fun z hz => ?_
     rcases List.mem_append.1 hz with hz | hz
     · exact h2 z (mem_union.1 hz).1
     · exact h2 z (List.mem_append_right _ hz)
theorem unD_again (x y : D) : unD (unD x y) y = unD x y := by
 rw [unD_form (unD x y) y, unD_els, union_again]
 exact (unD_form x y).symm
theorem union_self {A : List Int} (h : A.Pairwise (· < ·)) (h0 : 0 ∈ A → ∀ z, z ∈ A → z = 0) : unionL (A ++ A) = A := by
 refine int_ext (union_lt _) h fun v => ?_
 rw [mem_union, List.mem_append, or_self]
 refine ⟨fun h => h.1, fun hv => ⟨hv, ?_⟩⟩
 by_cases c : v = 0
 · subst c
   exact .inr fun z hz => by rcases List.mem_append.1 hz with hz | hz <;> exact h0 hv z hz
 · exact .inl c
theorem good_nums {d : D} (hp : Pg d) (hg : goodP d = true) : ∃ A : List Int, (d.cell 1).els = A.map (D.int .u32) ∧ A ≠ [] ∧ A.length ≤ 50 ∧ A.Pairwise (· < ·) ∧ (A.length = 1 ∨ A.getD 0 5 ≠ 0) ∧ ∀ z, z ∈ A → 0 ≤ z := by
 obtain ⟨A, eA, hA⟩ := hp.els
 unfold goodP chkA at hg
 have hg := of_decide_eq_true hg
 split at hg
 · cases hg
 rename_i hl
 split at hg
 case isFalse => cases hg
 rename_i h
 obtain ⟨_, h2, _, h4, h5⟩ := h
 rw [eA] at h2 h4 h5 hl
 have hl : A.length ≤ 50 := by simpa using hl
 have h2 : A ≠ [] := by simpa using h2
 have h0 : 0 < A.length := List.length_pos_iff.2 h2
 have at_ : ∀ i, (h : i < A.length) → at' (A.map (D.int .u32)) i = A[i] := fun i h => by unfold at'; rw [getD_map h]; rfl
 refine ⟨A, eA, h2, hl, List.pairwise_iff_getElem.2 fun i j hi hj hij => ?_, ?_, fun z hz => (hA z hz).1⟩
 · have step : ∀ n i, (h1 : i + n + 1 < A.length) → A[i] < A[i + n + 1] := fun n => by
    induction n with
    | zero =>
     intro i h1
     have := h5 (i + 1) (by omega) (by simpa using h1)
     rw [Nat.add_sub_cancel, at_ i (by omega), at_ (i + 1) (by omega)] at this
     exact this
    | succ n ih =>
     intro i h1
     have := h5 (i + n + 2) (by omega) (by simp; omega)
     rw [show i + n + 2 - 1 = i + n + 1 by omega, at_ _ (by omega), at_ _ (by omega)] at this
     exact Int.lt_trans (ih i (by omega)) this
   have := step (j - i - 1) i (by omega)
   simpa [show i + (j - i - 1) + 1 = j by omega] using this
 · rcases h4 with h4 | h4
   · exact .inl (by simpa using h4)
   · rw [at_ 0 h0] at h4
     exact .inr (by simpa [zq1, h0] using h4)
theorem good_zero {A : List Int} (h1 : A.Pairwise (· < ·)) (h2 : A.length = 1 ∨ A.getD 0 5 ≠ 0) (h3 : ∀ z, z ∈ A → 0 ≤ z) (h4 : 0 ∈ A) : ∀ z, z ∈ A → z = 0 := by
 match A, h1 with
 | [a], _ => intro z hz; have := List.mem_singleton.1 hz; have := List.mem_singleton.1 h4; omega
 | a :: b :: t, h1 =>
  rcases h2 with h2 | h2
  · simp at h2
  · simp at h2
    have := (List.pairwise_cons.1 h1).1
    rcases List.mem_cons.1 h4 with e | e
    · omega
    · have := this 0 e
      have := h3 a (List.mem_cons_self ..)
      omega
theorem unD_self {y : D} (hp : Pg y) (hg : goodP y = true) (hn : (y.cell 1).nb = true → (y.cell 1).els = []) : unD y y = y := by
 obtain ⟨A, eA, nA, lA, pA, zA, sA⟩ := good_nums hp hg
 have e1 : (y.cell 1).els.map D.i = A := (map_i eA).1
 rw [unD_form, e1, union_self pA fun h => good_zero pA zA sA h, ← eA]
 have hnb : (y.cell 1).nb = false := by
  cases h : (y.cell 1).nb
  · rfl
  · have := hn h
    rw [eA] at this
    exact absurd (List.map_eq_nil_iff.1 this) nA
 have e3 : A.isEmpty = false := by cases A <;> simp_all
 have := hp.eta
 rw [e3]
 rw [hnb] at this
 exact this
theorem keyP_un (x y : D) (h : keyP x = keyP y) : keyP (unD x y) = keyP x := rfl
theorem goneP_key (X : D) (x y : D) (h : keyP x = keyP y) : goneP X x = goneP X y := by
 have : custP x = custP y := (List.cons.inj h).1
 unfold goneP
 unfold custP at this
 rw [this]
theorem twiO {o p q : List D} {x : D} (hp : Pay o p q) (hx : Xg x) (h1 : payC o p q = 0) (h2 : xC x = 0) : mO ((mO (o.filter fun d => !goneO x d) (x.cell 3).els).filter fun d => !goneO x d) (x.cell 3).els = mO (o.filter fun d => !goneO x d) (x.cell 3).els := by
 have s1 := (risO.1 (payC_ris h1).1).2
 have s2 := (risO.1 (payC_ris (xC_zero h2).2.2.2).1).2
 exact twi_set keyO 6 keyO_len Og (fun a b ha hb e => keyO_inj ha hb e) s1 s2 hp.ho hx.pay.ho _
theorem twiK {o p q : List D} {x : D} (hp : Pay o p q) (hx : Xg x) (h1 : payC o p q = 0) (h2 : xC x = 0) : mK ((mK (q.filter fun d => !goneK x d) (x.cell 5).els).filter fun d => !goneK x d) (x.cell 5).els = mK (q.filter fun d => !goneK x d) (x.cell 5).els := by
 have s1 := (risK.1 (payC_ris h1).2.2).2
 have s2 := (risK.1 (payC_ris (xC_zero h2).2.2.2).2.2).2
 exact twi_set keyK 18 keyK_len Kg (fun a b ha hb e => keyK_inj ha hb e) s1 s2 hp.hq hx.pay.hq _
theorem twiP {o p q : List D} {x : D} (hx : Xg x) (h1 : payC o p q = 0) (h2 : xC x = 0) (hN2 : NnL (x.cell 4).els) : mP ((mP (p.filter fun d => !goneP x d) (x.cell 4).els).filter fun d => !goneP x d) (x.cell 4).els = mP (p.filter fun d => !goneP x d) (x.cell 4).els := by
 obtain ⟨_, s1⟩ := risP.1 (payC_ris h1).2.1
 obtain ⟨g2, s2⟩ := risP.1 (payC_ris (xC_zero h2).2.2.2).2.1
 simp only [mP, ordP_key]
 exact twi_key keyP 1 keyP_len unD keyP_un s1 s2 _ (fun a b e => by rw [goneP_key x a b e]) (fun y hy => unD_self (hx.pay.hp y hy).1 (g2 y hy) (hN2 y hy)) fun a b _ _ _ => unD_again a b
end Go.Proofs.YtapfhcnigmighaaGreat.Own
