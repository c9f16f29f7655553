import Derived.Test.YtapfhcnigmighaaGreatMerge
import Derived.Test.YtapfhcnigmighaaGreatLocal2
set_option linter.unusedVariables false
set_option linter.unusedSimpArgs false
namespace Go.Proofs.YtapfhcnigmighaaGreat.Own
open Go Go.Proofs.YtapfhcnigmighaaGreat.GD
theorem cmpL_neg : ∀ (a b : List Int), cmpL b a = - cmpL a b
 | [], [] => rfl
 | [], _ :: _ => rfl
 | _ :: _, [] => rfl
 | x :: a, y :: b => by
  simp only [cmpL]
  have := cmpL_neg a b
  split <;> split <;> first | omega | (split <;> first | omega | exact this) | rfl
theorem cmpL_trans : ∀ {a b c : List Int}, a.length = b.length → b.length = c.length → cmpL a b < 0 → cmpL b c < 0 → cmpL a c < 0
 | [], [], [], _, _, h, _ => h
 | x :: a, y :: b, z :: c, h1, h2, h3, h4 => by
  simp only [List.length_cons, Nat.add_right_cancel_iff] at h1 h2
  simp only [cmpL] at h3 h4 ⊢
  split at h3
  · split at h4
    · rw [if_pos (by omega)]; omega
    · split at h4
      · omega
      · rw [if_pos (by omega)]; omega
  · split at h3
    · omega
    · split at h4
      · rw [if_pos (by omega)]; omega
      · split at h4
        · omega
        · rw [if_neg (by omega), if_neg (by omega)]
          exact cmpL_trans h1 h2 h3 h4
section
variable (key : D → List Int) (n : Nat) (hk : ∀ d, (key d).length = n)
abbrev Srt (l : List D) : Prop := l.Pairwise fun a b => cmpL (key a) (key b) < 0
abbrev byK (a b : D) : Int := cmpL (key a) (key b)
include hk
theorem key_zero {a b : D} : cmpL (key a) (key b) = 0 ↔ key a = key b := cmpL_zero (by rw [hk, hk])
theorem key_irr (a : D) : ¬ cmpL (key a) (key a) < 0 := by rw [(key_zero key n hk).2 rfl]; omega
theorem srt_ext : ∀ {l m : List D}, Srt key l → Srt key m → (∀ d, d ∈ l ↔ d ∈ m) → l = m
 | [], [], _, _, _ => rfl
 | [], y :: m, _, _, h => by have := (h y).2 (List.mem_cons_self ..); cases this
 | x :: l, [], _, _, h => by have := (h x).1 (List.mem_cons_self ..); cases this
 | x :: l, y :: m, hl, hm, h => by
  obtain ⟨l1, l2⟩ := List.pairwise_cons.1 hl
  obtain ⟨m1, m2⟩ := List.pairwise_cons.1 hm
  have e : x = y := by
   rcases List.mem_cons.1 ((h x).1 (List.mem_cons_self ..)) with e | h1
   · exact e
   · rcases List.mem_cons.1 ((h y).2 (List.mem_cons_self ..)) with e | h2
     · exact e.symm
     · have a1 := m1 x h1
       have a2 := l1 y h2
       rw [cmpL_neg] at a2
       omega
  subst e
  rw [srt_ext l2 m2 fun d => ?_]
  constructor
  · intro hd
    rcases List.mem_cons.1 ((h d).1 (List.mem_cons_of_mem _ hd)) with e | h1
    · subst e; exact absurd (l1 d hd) (key_irr key n hk d)
    · exact h1
  · intro hd
    rcases List.mem_cons.1 ((h d).2 (List.mem_cons_of_mem _ hd)) with e | h1
    · subst e; exact absurd (m1 d hd) (key_irr key n hk d)
    · exact h1
section
variable (e : D → D → D) (he : ∀ x y, key x = key y → key (e x y) = key x)
include he
theorem mrg_spec : ∀ (n' : Nat) (a b : List D), a.length + b.length ≤ n' → Srt key a → Srt key b →
  Srt key (mrg (byK key) e a b) ∧ ∀ d, d ∈ mrg (byK key) e a b ↔ (d ∈ a ∧ ∀ y, y ∈ b → key y ≠ key d) ∨ (d ∈ b ∧ ∀ x, x ∈ a → key x ≠ key d) ∨ ∃ x, x ∈ a ∧ ∃ y, y ∈ b ∧ key x = key y ∧ d = e x y
 | n', [], b, _, _, hb => by rw [mrg]; exact ⟨hb, fun d => by simp⟩
 | n', x :: a, [], _, ha, _ => by rw [mrg]; exact ⟨ha, fun d => by simp⟩
 | 0, x :: a, y :: b, h, _, _ => by simp at h
 | n' + 1, x :: a, y :: b, h, ha, hb => by
  obtain ⟨a1, a2⟩ := List.pairwise_cons.1 ha
  obtain ⟨b1, b2⟩ := List.pairwise_cons.1 hb
  simp only [List.length_cons] at h
  rw [mrg_cc]
  have tr : ∀ {u v w : D}, cmpL (key u) (key v) < 0 → cmpL (key v) (key w) < 0 → cmpL (key u) (key w) < 0 := fun h1 h2 => cmpL_trans (by rw [hk, hk]) (by rw [hk, hk]) h1 h2
  have ne : ∀ {u v : D}, cmpL (key u) (key v) < 0 → key u ≠ key v := fun h1 h2 => by have := (key_zero key n hk).2 h2; omega
  by_cases c1 : cmpL (key x) (key y) < 0
  · rw [if_pos c1]
    obtain ⟨s1, s2⟩ := mrg_spec n' a (y :: b) (by simp; omega) a2 hb
    have xb : ∀ z, z ∈ y :: b → cmpL (key x) (key z) < 0 := fun z hz => by
     rcases List.mem_cons.1 hz with e' | hz
     · subst e'; exact c1
     · exact tr c1 (b1 z hz)
    refine ⟨List.pairwise_cons.2 ⟨fun d hd => ?_, s1⟩, fun d => ?_⟩
    · rcases (s2 d).1 hd with ⟨h1, _⟩ | ⟨h1, _⟩ | ⟨u, hu, v, hv, huv, rfl⟩
      · exact a1 d h1
      · exact xb d h1
      · rw [he u v huv]; exact a1 u hu
    · rw [List.mem_cons, s2]
      constructor
      · rintro (e' | ⟨h1, h2⟩ | ⟨h1, h2⟩ | ⟨u, hu, v, hv, huv⟩)
        · subst e'; exact .inl ⟨List.mem_cons_self .., fun z hz => (ne (xb z hz)).symm⟩
        · exact .inl ⟨List.mem_cons_of_mem _ h1, h2⟩
        · refine .inr (.inl ⟨h1, fun z hz => ?_⟩)
          rcases List.mem_cons.1 hz with e' | hz
          · subst e'; exact ne (xb d h1)
          · exact h2 z hz
        · exact .inr (.inr ⟨u, List.mem_cons_of_mem _ hu, v, hv, huv⟩)
      · rintro (⟨h1, h2⟩ | ⟨h1, h2⟩ | ⟨u, hu, v, hv, huv⟩)
        · rcases List.mem_cons.1 h1 with e' | h1
          · exact .inl e'
          · exact .inr (.inl ⟨h1, h2⟩)
        · exact .inr (.inr (.inl ⟨h1, fun z hz => h2 z (List.mem_cons_of_mem _ hz)⟩))
        · rcases List.mem_cons.1 hu with e' | hu
          · subst e'; exact absurd huv.1 (ne (xb v hv))
          · exact .inr (.inr (.inr ⟨u, hu, v, hv, huv⟩))
  · rw [if_neg c1]
    by_cases c2 : 0 < cmpL (key x) (key y)
    · rw [if_pos c2]
      have c3 : cmpL (key y) (key x) < 0 := by rw [cmpL_neg]; omega
      obtain ⟨s1, s2⟩ := mrg_spec n' (x :: a) b (by simp; omega) ha b2
      have ya : ∀ z, z ∈ x :: a → cmpL (key y) (key z) < 0 := fun z hz => by
       rcases List.mem_cons.1 hz with e' | hz
       · subst e'; exact c3
       · exact tr c3 (a1 z hz)
      refine ⟨List.pairwise_cons.2 ⟨fun d hd => ?_, s1⟩, fun d => ?_⟩
      · rcases (s2 d).1 hd with ⟨h1, _⟩ | ⟨h1, _⟩ | ⟨u, hu, v, hv, huv, rfl⟩
        · exact ya d h1
        · exact b1 d h1
        · rw [he u v huv]; exact ya u hu
      · rw [List.mem_cons, s2]
        constructor
        · rintro (e' | ⟨h1, h2⟩ | ⟨h1, h2⟩ | ⟨u, hu, v, hv, huv⟩)
          · subst e'; exact .inr (.inl ⟨List.mem_cons_self .., fun z hz => (ne (ya z hz)).symm⟩)
          · refine .inl ⟨h1, fun z hz => ?_⟩
            rcases List.mem_cons.1 hz with e' | hz
            · subst e'; exact ne (ya d h1)
            · exact h2 z hz
          · exact .inr (.inl ⟨List.mem_cons_of_mem _ h1, h2⟩)
          · exact .inr (.inr ⟨u, hu, v, List.mem_cons_of_mem _ hv, huv⟩)
        · rintro (⟨h1, h2⟩ | ⟨h1, h2⟩ | ⟨u, hu, v, hv, huv⟩)
          · exact .inr (.inl ⟨h1, fun z hz => h2 z (List.mem_cons_of_mem _ hz)⟩)
          · rcases List.mem_cons.1 h1 with e' | h1
            · exact .inl e'
            · exact .inr (.inr (.inl ⟨h1, h2⟩))
          · rcases List.mem_cons.1 hv with e' | hv
            · subst e'; exact absurd huv.1.symm (ne (ya u hu))
            · exact .inr (.inr (.inr ⟨u, hu, v, hv, huv⟩))
    · rw [if_neg c2]
      have ek : key x = key y := (key_zero key n hk).1 (by omega)
      obtain ⟨s1, s2⟩ := mrg_spec n' a b (by omega) a2 b2
      have xa : ∀ z, z ∈ a → cmpL (key x) (key z) < 0 := a1
      have xb : ∀ z, z ∈ b → cmpL (key x) (key z) < 0 := fun z hz => by rw [ek]; exact b1 z hz
      have ke := he x y ek
      refine ⟨List.pairwise_cons.2 ⟨fun d hd => ?_, s1⟩, fun d => ?_⟩
      · rw [ke]
        rcases (s2 d).1 hd with ⟨h1, _⟩ | ⟨h1, _⟩ | ⟨u, hu, v, hv, huv, rfl⟩
        · exact xa d h1
        · exact xb d h1
        · rw [he u v huv]; exact xa u hu
      · rw [List.mem_cons, s2]
        constructor
        · rintro (e' | ⟨h1, h2⟩ | ⟨h1, h2⟩ | ⟨u, hu, v, hv, huv⟩)
          · exact .inr (.inr ⟨x, List.mem_cons_self .., y, List.mem_cons_self .., ek, e'⟩)
          · refine .inl ⟨List.mem_cons_of_mem _ h1, fun z hz => ?_⟩
            rcases List.mem_cons.1 hz with e' | hz
            · subst e'; rw [← ek]; exact ne (xa d h1)
            · exact h2 z hz
          · refine .inr (.inl ⟨List.mem_cons_of_mem _ h1, fun z hz => ?_⟩)
            rcases List.mem_cons.1 hz with e' | hz
            · subst e'; exact ne (xb d h1)
            · exact h2 z hz
          · exact .inr (.inr ⟨u, List.mem_cons_of_mem _ hu, v, List.mem_cons_of_mem _ hv, huv⟩)
        · rintro (⟨h1, h2⟩ | ⟨h1, h2⟩ | ⟨u, hu, v, hv, huv⟩)
          · rcases List.mem_cons.1 h1 with e' | h1
            · subst e'; exact absurd ek.symm (h2 y (List.mem_cons_self ..))
            · exact .inr (.inl ⟨h1, fun z hz => h2 z (List.mem_cons_of_mem _ hz)⟩)
          · rcases List.mem_cons.1 h1 with e' | h1
            · subst e'; exact absurd ek (h2 x (List.mem_cons_self ..))
            · exact .inr (.inr (.inl ⟨h1, fun z hz => h2 z (List.mem_cons_of_mem _ hz)⟩))
          · rcases List.mem_cons.1 hu with e1 | hu
            · rcases List.mem_cons.1 hv with e2 | hv
              · subst e1; subst e2; exact .inl huv.2
              · subst e1; exact absurd huv.1 (ne (xb v hv))
            · rcases List.mem_cons.1 hv with e2 | hv
              · subst e2; exact absurd (huv.1.trans ek.symm).symm (ne (xa u hu))
              · exact .inr (.inr (.inr ⟨u, hu, v, hv, huv⟩))
end
theorem mrg_set {a b : List D} (ha : Srt key a) (hb : Srt key b) (hi : ∀ x y, x ∈ a → y ∈ b → key x = key y → x = y) :
  Srt key (mrg (byK key) (fun x _ => x) a b) ∧ ∀ d, d ∈ mrg (byK key) (fun x _ => x) a b ↔ d ∈ a ∨ d ∈ b := by
 obtain ⟨s1, s2⟩ := mrg_spec key n hk (fun x _ => x) (fun _ _ _ => rfl) _ a b (Nat.le_refl _) ha hb
 refine ⟨s1, fun d => (s2 d).trans ⟨?_, ?_⟩⟩
 · rintro (⟨h, _⟩ | ⟨h, _⟩ | ⟨x, hx, y, hy, _, rfl⟩)
   · exact .inl h
   · exact .inr h
   · exact .inl hx
 · rintro (h | h)
   · by_cases c : ∃ y, y ∈ b ∧ key y = key d
     · obtain ⟨y, hy, e⟩ := c
       exact .inr (.inr ⟨d, h, y, hy, e.symm, rfl⟩)
     · exact .inl ⟨h, fun y hy e => c ⟨y, hy, e⟩⟩
   · by_cases c : ∃ x, x ∈ a ∧ key x = key d
     · obtain ⟨x, hx, e⟩ := c
       exact .inr (.inr ⟨x, hx, d, h, e, (hi x d hx h e).symm⟩)
     · exact .inr (.inl ⟨h, fun x hx e => c ⟨x, hx, e⟩⟩)
theorem ris_srt {g : D → Bool} {lt : D → D → Bool} (hl : ∀ a b, lt a b = decide (cmpL (key a) (key b) < 0)) : ∀ (l : List D), risF g lt l = true ↔ (∀ d, d ∈ l → g d = true) ∧ Srt key l := by
 have tr : ∀ {u v w : D}, cmpL (key u) (key v) < 0 → cmpL (key v) (key w) < 0 → cmpL (key u) (key w) < 0 := fun h1 h2 => cmpL_trans (by rw [hk, hk]) (by rw [hk, hk]) h1 h2
 have G : ∀ (l : List D) (p : D), risG g lt p l = true ↔ (∀ d, d ∈ l → g d = true ∧ cmpL (key p) (key d) < 0) ∧ Srt key l := by
  intro l
  induction l with
  | nil => intro p; simp [risG, Srt]
  | cons x t ih =>
   intro p
   simp only [risG, zq3, hl, decide_eq_true_eq, ih, Srt, List.pairwise_cons, List.mem_cons, forall_eq_or_imp]
   constructor
   · rintro ⟨h1, h2, h3, h4⟩
     exact ⟨⟨⟨h1, h2⟩, fun d hd => ⟨(h3 d hd).1, tr h2 (h3 d hd).2⟩⟩, fun d hd => (h3 d hd).2, h4⟩
   · rintro ⟨⟨⟨h1, h2⟩, h3⟩, h4, h5⟩
     exact ⟨h1, h2, fun d hd => ⟨(h3 d hd).1, h4 d hd⟩, h5⟩
 intro l
 cases l with
 | nil => simp [risF, Srt]
 | cons x t =>
  simp only [risF, zq3, G, Srt, List.pairwise_cons, List.mem_cons, forall_eq_or_imp]
  exact ⟨fun ⟨h1, h2, h3⟩ => ⟨⟨h1, fun d hd => (h2 d hd).1⟩, fun d hd => (h2 d hd).2, h3⟩, fun ⟨⟨h1, h2⟩, h3, h4⟩ => ⟨h1, fun d hd => ⟨h2 d hd, h3 d hd⟩, h4⟩⟩
end
def keyO (d : D) : List Int := oNums d
def keyK (d : D) : List Int := (d.cell 0).i :: (rootN d 1 ++ [(d.cell 17).i])
def keyP (d : D) : List Int := [custP d]
theorem keyO_len (d : D) : (keyO d).length = 6 := rfl
theorem keyK_len (d : D) : (keyK d).length = 18 := by simp [keyK, rootN_len]
theorem keyP_len (d : D) : (keyP d).length = 1 := rfl
theorem ordP_key : ordP = byK keyP := by funext a b; exact (cmpL_single _ _).symm
theorem keyO_inj {a b : D} (ha : Og a) (hb : Og b) (h : keyO a = keyO b) : a = b := by
 simp only [keyO, oNums, List.cons.injEq] at h
 obtain ⟨h0, h1, h2, h3, h4, h5, _⟩ := h
 rw [← ha.eta, ← hb.eta]
 show D.agg [.int .u32 (a.cell 0).i, .int .u8 (a.cell 1).i, .int .u64 (a.cell 2).i, .int .u64 (a.cell 3).i, .int .i64 (a.cell 4).i, .int .i64 (a.cell 5).i] = D.agg [.int .u32 (b.cell 0).i, .int .u8 (b.cell 1).i, .int .u64 (b.cell 2).i, .int .u64 (b.cell 3).i, .int .i64 (b.cell 4).i, .int .i64 (b.cell 5).i]
 rw [h0, h1, h2, h3, h4, h5]
theorem keyK_inj {a b : D} (ha : Kg a) (hb : Kg b) (h : keyK a = keyK b) : a = b := by
 obtain ⟨h0, h1⟩ := List.cons.inj h
 obtain ⟨h2, h3⟩ := List.append_inj h1 (by rw [rootN_len, rootN_len])
 have h3 := (List.cons.inj h3).1
 rw [← ha.eta, ← hb.eta]
 show D.agg (.int .u32 (a.cell 0).i :: ((rootN a 1).map (D.int .u8) ++ [.int .i64 (a.cell 17).i])) = D.agg (.int .u32 (b.cell 0).i :: ((rootN b 1).map (D.int .u8) ++ [.int .i64 (b.cell 17).i]))
 rw [h0, h2, h3]
theorem risO {l : List D} : risF goodO ltO l = true ↔ (∀ d, d ∈ l → goodO d = true) ∧ Srt keyO l := ris_srt keyO 6 keyO_len (fun _ _ => rfl) l
theorem risK {l : List D} : risF goodK ltK l = true ↔ (∀ d, d ∈ l → goodK d = true) ∧ Srt keyK l := ris_srt keyK 18 keyK_len (fun _ _ => rfl) l
theorem risP {l : List D} : risF goodP ltP l = true ↔ (∀ d, d ∈ l → goodP d = true) ∧ Srt keyP l := ris_srt keyP 1 keyP_len (fun a b => by rw [ltP_ord, ordP_key]) l
end Go.Proofs.YtapfhcnigmighaaGreat.Own
