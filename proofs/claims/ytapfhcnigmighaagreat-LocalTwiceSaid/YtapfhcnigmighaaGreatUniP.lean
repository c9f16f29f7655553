import Derived.Test.YtapfhcnigmighaaGreatApply
set_option linter.unusedVariables false
set_option linter.unusedSimpArgs false
namespace Go.Proofs.YtapfhcnigmighaaGreat.Own
open Go Go.Proofs.YtapfhcnigmighaaGreat.GD
theorem mem_insK' {x y : Int} : ∀ {K : List Int}, y ∈ insK x K ↔ y = x ∨ y ∈ K
 | [] => by simp [insK]
 | k :: ks => by
  unfold insK
  split
  · rename_i h
    subst h
    exact ⟨.inr, fun h => h.elim (fun h => by subst h; exact List.mem_cons_self ..) id⟩
  · simp only [List.mem_cons, mem_insK' (K := ks)]
    exact ⟨fun h => by rcases h with h | h | h <;> simp [h], fun h => by rcases h with h | h | h <;> simp [h]⟩
theorem mem_keysOf' {y : Int} : ∀ {L K : List Int}, y ∈ keysOf K L ↔ y ∈ K ∨ y ∈ L
 | [], K => by simp [keysOf]
 | x :: xs, K => by
  rw [keysOf, mem_keysOf', mem_insK', List.mem_cons]
  exact ⟨fun h => by rcases h with (h | h) | h <;> simp [h], fun h => by rcases h with h | h | h <;> simp [h]⟩
theorem nodup_insK (x : Int) : ∀ {K : List Int}, K.Nodup → (insK x K).Nodup
 | [], _ => by simp [insK]
 | k :: ks, h => by
  unfold insK
  split
  · exact h
  · rename_i hk
    obtain ⟨h1, h2⟩ := List.nodup_cons.1 h
    refine List.nodup_cons.2 ⟨fun hm => ?_, nodup_insK x h2⟩
    rcases mem_insK'.1 hm with hm | hm
    · exact hk hm.symm
    · exact h1 hm
theorem nodup_keysOf : ∀ {L K : List Int}, K.Nodup → (keysOf K L).Nodup
 | [], K, h => h
 | x :: xs, K, h => nodup_keysOf (L := xs) (nodup_insK x h)
theorem one_of {K : List Int} {c : Int} (h : K.Nodup) (hc : ∀ z, z ∈ K → z = c) : K.length ≤ 1 := by
 match K, h with
 | [], _ => simp
 | [_], _ => simp
 | a :: b :: t, h =>
  have := (List.nodup_cons.1 h).1
  rw [hc a (by simp), hc b (by simp)] at this
  simp at this
theorem mem_union {y : Int} {L : List Int} : y ∈ unionL L ↔ y ∈ L ∧ (y ≠ 0 ∨ ∀ z, z ∈ L → z = 0) := by
 unfold unionL
 rw [List.mem_mergeSort]
 unfold unionK
 have hn : (keysOf [] L).Nodup := nodup_keysOf List.nodup_nil
 have hm : ∀ z, z ∈ keysOf [] L ↔ z ∈ L := fun z => by rw [mem_keysOf']; simp
 split
 · rename_i h
   rw [hn.mem_erase_iff, hm]
   constructor
   · rintro ⟨h1, h2⟩; exact ⟨h2, .inl h1⟩
   · rintro ⟨h1, h2⟩
     refine ⟨fun e => ?_, h1⟩
     rcases h2 with h2 | h2
     · exact h2 e
     · have := one_of hn (c := 0) fun z hz => h2 z ((hm z).1 hz)
       omega
 · rename_i h
   rw [hm]
   refine ⟨fun hy => ⟨hy, ?_⟩, fun h => h.1⟩
   by_cases e : y = 0
   · right
     intro z hz
     have h1 := (hm y).2 hy
     have h2 := (hm z).2 hz
     match hk : keysOf [] L with
     | [] => rw [hk] at h1; cases h1
     | [a] =>
      rw [hk] at h1 h2
      have := List.mem_singleton.1 h1
      have := List.mem_singleton.1 h2
      omega
     | a :: b :: t => rw [hk] at h; simp at h
   · exact .inl e
theorem payC_ris {o p q : List D} (h : payC o p q = 0) : risF goodO ltO o = true ∧ risF goodP ltP p = true ∧ risF goodK ltK q = true := by
 unfold payC at h
 split at h
 · cases h
 · split at h
   · assumption
   · cases h
end Go.Proofs.YtapfhcnigmighaaGreat.Own
