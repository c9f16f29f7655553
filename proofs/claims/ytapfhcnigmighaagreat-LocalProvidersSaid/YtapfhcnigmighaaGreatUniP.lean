import Derived.Test.YtapfhcnigmighaaGreatApply
set_option linter.unusedVariables false
set_option linter.unusedSimpArgs false
namespace Go.Proofs.YtapfhcnigmighaaGreat.Own
open Go Go.Proofs.YtapfhcnigmighaaGreat.GD
theorem mem_insK' {x y : Int} : ∀ {K : List Int}, y ∈ insK x K ↔ y = x ∨ y ∈ K
 | [] => by simp [insK]
 | k :: ks => by
  unfold insK
  split
  · rename_i h
    subst h
    exact ⟨.inr, fun h => h.elim (fun h => by subst h; exact List.mem_cons_self ..) id⟩
  · simp only [List.mem_cons, mem_insK' (K := ks)]
    exact ⟨fun h => by rcases h with h | h | h <;> simp [h], fun h => by rcases h with h | h | h <;> simp [h]⟩
theorem mem_keysOf' {y : Int} : ∀ {L K : List Int}, y ∈ keysOf K L ↔ y ∈ K ∨ y ∈ L
 | [], K => by simp [keysOf]
 | x :: xs, K => by
  rw [keysOf, mem_keysOf', mem_insK', List.mem_cons]
  exact ⟨fun h => by rcases h with (h | h) | h <;> simp [h], fun h => by rcases h with h | h | h <;> simp [h]⟩
theorem nodup_insK (x : Int) : ∀ {K : List Int}, K.Nodup → (insK x K).Nodup
 | [], _ => by simp [insK]
 | k :: ks, h => by
  unfold insK
  split
  · exact h
  · rename_i hk
    obtain ⟨h1, h2⟩ := List.nodup_cons.1 h
    refine List.nodup_cons.2 ⟨fun hm => ?_, nodup_insK x h2⟩
    rcases mem_insK'.1 hm with hm | hm
    · exact hk hm.symm
    · exact h1 hm
theorem nodup_keysOf : ∀ {L K : List Int}, K.Nodup → (keysOf K L).Nodup
 | [], K, h => h
 | x :: xs, K, h => nodup_keysOf (L := xs) (nodup_insK x h)
theorem one_of {K : List Int} {c : Int} (h : K.Nodup) (hc : ∀ z, z ∈ K → z = c) : K.length ≤ 1 := by
 match K, h with
 | [], _ => simp
 | [_], _ => simp
 | a :: b :: t, h =>
  have := (List.nodup_cons.1 h).1
  rw [hc a (by simp), hc b (by simp)] at this
  simp at this
theorem mem_union {y : Int} {L : List Int} : y ∈ unionL L ↔ y ∈ L ∧ (y ≠ 0 ∨ ∀ z, z ∈ L → z = 0) := by
 unfold unionL
 rw [List.mem_mergeSort]
 unfold unionK
 have hn : (keysOf [] L).Nodup := nodup_keysOf List.nodup_nil
 have hm : ∀ z, z ∈ keysOf [] L ↔ z ∈ L := fun z => by rw [mem_keysOf']; simp
 split
 · rename_i h
   rw [hn.mem_erase_iff, hm]
   constructor
   · rintro ⟨h1, h2⟩; exact ⟨h2, .inl h1⟩
   · rintro ⟨h1, h2⟩
     refine ⟨fun e => ?_, h1⟩
     rcases h2 with h2 | h2
     · exact h2 e
     · have := one_of hn (c := 0) fun z hz => h2 z ((hm z).1 hz)
       omega
 · rename_i h
   rw [hm]
   refine ⟨fun hy => ⟨hy, ?_⟩, fun h => h.1⟩
   by_cases e : y = 0
   · right
     intro z hz
     have h1 := (hm y).2 hy
     have h2 := (hm z).2 hz
     match hk : keysOf [] L with
     | [] => rw [hk] at h1; cases h1
     | [a] =>
      rw [hk] at h1 h2
      have := List.mem_singleton.1 h1
      have := List.mem_singleton.1 h2
      omega
     | a :: b :: t => rw [hk] at h; simp at h
   · exact .inl e
abbrev SrtP (l : List D) : Prop := l.Pairwise fun a b => custP a < custP b
theorem srtG {p : D} : ∀ {l : List D}, risG goodP ltP p l = true → (∀ d, d ∈ l → custP p < custP d ∧ goodP d = true) ∧ SrtP l
 | [], _ => ⟨fun d h => (by cases h), List.Pairwise.nil⟩
 | x :: t, h => by
  simp only [risG, zq3] at h
  obtain ⟨h1, h2, h3⟩ := h
  obtain ⟨g1, g2⟩ := srtG h3
  have hl : custP p < custP x := by simpa [ltP] using h2
  have g0 : ∀ d, d ∈ t → custP x < custP d := fun d hd => (g1 d hd).1
  refine ⟨fun d hd => ?_, List.Pairwise.cons g0 g2⟩
  rcases List.mem_cons.1 hd with rfl | hd
  · exact ⟨hl, h1⟩
  · exact ⟨by have := (g1 d hd).1; omega, (g1 d hd).2⟩
theorem srt_of {l : List D} (h : risF goodP ltP l = true) : SrtP l ∧ ∀ d, d ∈ l → goodP d = true := by
 cases l with
 | nil => exact ⟨List.Pairwise.nil, fun d h => by cases h⟩
 | cons x t =>
  simp only [risF, zq3] at h
  obtain ⟨g1, g2⟩ := srtG h.2
  exact ⟨List.Pairwise.cons (fun d hd => (g1 d hd).1) g2, fun d hd => by
   rcases List.mem_cons.1 hd with rfl | hd
   · exact h.1
   · exact (g1 d hd).2⟩
theorem payC_ris {o p q : List D} (h : payC o p q = 0) : risF goodO ltO o = true ∧ risF goodP ltP p = true ∧ risF goodK ltK q = true := by
 unfold payC at h
 split at h
 · cases h
 · split at h
   · assumption
   · cases h
def fndP (c : Int) (l : List D) : Option D := l.find? fun d => (d.cell 0).i == c
theorem fnd_none {c : Int} {l : List D} (h : ∀ d, d ∈ l → c < custP d) : fndP c l = none := by
 unfold fndP
 rw [List.find?_eq_none]
 intro d hd
 have : c < (d.cell 0).i := h d hd
 simp; omega
theorem fnd_cons (c : Int) (x : D) (l : List D) : fndP c (x :: l) = if custP x = c then some x else fndP c l := by
 unfold fndP custP
 rw [List.find?_cons]
 split <;> rename_i h <;> simp at h <;> simp [h]
theorem fnd_mrg (c : Int) : ∀ (n : Nat) (a b : List D), a.length + b.length ≤ n → SrtP a → SrtP b → fndP c (mrg ordP unD a b) = match fndP c a, fndP c b with | some x, some y => some (unD x y) | some x, none => some x | none, r => r
 | n, [], b, _, _, _ => by rw [mrg]; rfl
 | n, x :: a, [], _, _, _ => by rw [mrg]; cases h : fndP c (x :: a) <;> rfl
 | 0, x :: a, y :: b, h, _, _ => by simp at h
 | n + 1, x :: a, y :: b, h, ha, hb => by
  obtain ⟨a1, a2⟩ := List.pairwise_cons.1 ha
  obtain ⟨b1, b2⟩ := List.pairwise_cons.1 hb
  simp only [List.length_cons] at h
  rw [mrg_cc]
  have hs : ordP x y = sgn (custP x) (custP y) := rfl
  rcases sgn_cases (custP x) (custP y) with ⟨h1, e⟩ | ⟨h1, e⟩ | ⟨h1, e⟩
  · rw [if_pos (by omega), fnd_cons, fnd_mrg c n a (y :: b) (by simp; omega) a2 hb, fnd_cons c x a]
    by_cases hc : custP x = c
    · rw [if_pos hc, if_pos hc, fnd_none (l := y :: b) fun d hd => ?_]
      rcases List.mem_cons.1 hd with rfl | hd
      · omega
      · have := b1 d hd; omega
    · rw [if_neg hc, if_neg hc]
  · rw [if_neg (by omega), if_neg (by omega), fnd_cons, fnd_mrg c n a b (by omega) a2 b2, fnd_cons c x a, fnd_cons c y b]
    by_cases hc : custP x = c
    · have : custP (unD x y) = c := hc
      rw [if_pos this, if_pos hc, if_pos (by omega)]
    · have : ¬ custP (unD x y) = c := hc
      rw [if_neg this, if_neg hc, if_neg (by omega)]
  · rw [if_neg (by omega), if_pos (by omega), fnd_cons, fnd_mrg c n (x :: a) b (by simp; omega) ha b2, fnd_cons c y b]
    by_cases hc : custP y = c
    · rw [if_pos hc, if_pos hc, fnd_none (l := x :: a) fun d hd => ?_]
      rcases List.mem_cons.1 hd with rfl | hd
      · omega
      · have := a1 d hd; omega
    · rw [if_neg hc, if_neg hc]
end Go.Proofs.YtapfhcnigmighaaGreat.Own
