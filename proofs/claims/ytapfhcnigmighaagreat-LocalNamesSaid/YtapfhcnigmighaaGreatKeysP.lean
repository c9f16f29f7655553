/- The sort of the library, and the keys of a map. -/
import Derived.Test.YtapfhcnigmighaaGreatG5
import Derived.Maps.RangeRun
import Derived.RangeFuncGives
import Derived.Sort.MapsRangeIn
import Derived.OwnWalkIn
import Derived.WalkKit
set_option linter.unusedVariables false
set_option linter.unusedSimpArgs false
namespace Go.Proofs.YtapfhcnigmighaaGreat.GD
open Go Go.Maps
theorem nodup_of_map {α β : Type} {f : α → β} {l : List α} (h : (l.map f).Nodup) : l.Nodup := (List.pairwise_map.1 h).imp fun hne e => hne (congrArg f e)
theorem nodup_len {α : Type} [DecidableEq α] : ∀ {xs l : List α}, xs.Nodup → (∀ x, x ∈ xs → x ∈ l) → xs.length ≤ l.length
 | [], _, _, _ => Nat.zero_le _
 | x :: xs, l, h, hs => by
  obtain ⟨h1, h2⟩ := List.nodup_cons.1 h
  have hx := hs x (by simp)
  have := nodup_len (l := l.erase x) h2 fun y hy => (List.mem_erase_of_ne (fun e => h1 (by rw [← e]; exact hy))).2 (hs y (by simp [hy]))
  rw [List.length_erase_of_mem hx] at this
  have := List.length_pos_of_mem hx
  simp; omega
structure Rg (w : World) (b r : Nat) (es : Array MapEntry) (clock : Nat) (xs : List MapEntry) : Prop where
 hb : w.heap[b]? = some (.map es clock)
 hr : ∃ c0, w.heap[r]? = some (.mapIter (some b) clock (xs.map (·.born)).toArray c0) ∧ clock ≤ c0
 sub : ∀ x, x ∈ xs → x ∈ es.toList
 nd : (xs.map (·.born)).Nodup
theorem Rg.ne {w : World} {b r : Nat} {es : Array MapEntry} {clock : Nat} {xs : List MapEntry} (h : Rg w b r es clock xs) : r ≠ b := by
 intro e
 obtain ⟨c0, h1, _⟩ := h.hr
 rw [e, h.hb] at h1
 cases h1
theorem Rg.walks {w w' : World} {b r : Nat} {es : Array MapEntry} {clock : Nat} {xs : List MapEntry} (h : Rg w b r es clock xs) (hk : KeepsWalks w w') : Rg w' b r es clock xs := by
 obtain ⟨c0, h1, h2⟩ := h.hr
 exact ⟨hk.same b _ h.hb rfl, ⟨c0, hk.same r _ h1 rfl, h2⟩, h.sub, h.nd⟩
theorem Rg.len {w : World} {b r : Nat} {es : Array MapEntry} {clock : Nat} {xs : List MapEntry} (h : Rg w b r es clock xs) : xs.length ≤ es.size := by
 have := nodup_len h.nd (l := es.toList.map (·.born)) fun x hx => by
  obtain ⟨y, hy, rfl⟩ := List.mem_map.1 hx
  exact List.mem_map_of_mem (h.sub y hy)
 simpa using this
theorem Rg.perm {w : World} {b r : Nat} {es : Array MapEntry} {clock : Nat} {xs : List MapEntry} (h : Rg w b r es clock xs) (ho : BornOk es clock) (h0 : (leftOf es (xs.map (·.born)).toArray).size = 0) : xs.Perm es.toList := by
 refine (List.perm_ext_iff_of_nodup (nodup_of_map h.nd) (nodup_of_map ho.2)).2 fun x => ⟨h.sub x, fun hx => ?_⟩
 have := all_seen es _ h0 x hx
 simp only [List.contains_toArray, List.contains_eq_mem, List.mem_map, decide_eq_true_eq] at this
 obtain ⟨y, hy, e⟩ := this
 have := born_inj ho.2 hx (h.sub y hy) e.symm
 rw [this]; exact hy
theorem Rg.next {P : Program} {w : World} {b r : Nat} {es : Array MapEntry} {clock : Nat} {xs : List MapEntry} (h : Rg w b r es clock xs) (ho : BornOk es clock) (ty : TypeId) :
  ((leftOf es (xs.map (·.born)).toArray).size = 0 ∧ (Instr.next (.pointer (some ⟨r, 0, none⟩)) false ty).run P w = .ok (.tuple #[.bool false]) w) ∨
  ∃ e w', e ∈ es.toList ∧ (Instr.next (.pointer (some ⟨r, 0, none⟩)) false ty).run P w = .ok (.tuple #[.bool true, e.key, e.val]) w' ∧ Rg w' b r es clock (xs ++ [e]) ∧ w.grownBy w' (some r) ∧ w'.heap.size = w.heap.size ∧
   (Instr.entry (.pointer (some ⟨r, 0, none⟩))).run P w' = .ok (.tuple #[e.key, e.val]) w' := by
 obtain ⟨c0, hr, hc⟩ := h.hr
 rcases run_next_at (P := P) w ty r b clock c0 _ es clock hr h.hb ho.1 hc with ⟨h0, hrun⟩ | ⟨e, he, w1, hal, hrun⟩
 · exact .inl ⟨h0, hrun⟩
 · obtain ⟨hem, hes⟩ := mem_left he
   have hr1 : w1.heap[r]? = some (.mapIter (some b) clock (xs.map (·.born)).toArray c0) := by rcases hal with rfl | rfl <;> exact hr
   have hb1 : w1.heap[b]? = some (.map es clock) := by rcases hal with rfl | rfl <;> exact h.hb
   have hset := MapKept.heap_set (o' := .mapIter (some b) clock ((xs.map (·.born)).toArray.push e.born) clock) hr1
   have hb' := (hset.2 b (fun e1 => h.ne e1.symm)).trans hb1
   have hes' : e.born ∉ xs.map (·.born) := by
    intro hm
    simp [List.contains_toArray, hm] at hes
   refine .inr ⟨e, _, hem, hrun, ⟨hb', ⟨clock, ?_, Nat.le_refl _⟩, fun x hx => ?_, ?_⟩, ?_, ?_, run_entry_at _ r b clock _ es clock e hset.1 hb' hem ho.2⟩
   · refine hset.1.trans ?_; simp
   · rcases List.mem_append.1 hx with hx | hx
     · exact h.sub x hx
     · simp at hx; rw [hx]; exact hem
   · rw [List.map_append, List.nodup_append]
     refine ⟨h.nd, by simp, fun a ha c hc => ?_⟩
     simp at hc
     rw [hc]; intro e1; rw [e1] at ha; exact hes' ha
   · rcases hal with rfl | rfl <;> exact ⟨rfl, rfl, rfl, by simp [ChangeMaps.setBlock], fun i _ hi => hset.2 i (fun e1 => hi (by rw [e1]))⟩
   · rcases hal with rfl | rfl <;> simp [ChangeMaps.setBlock]
section
variable {P : Program} {F : Fence} {n : Nat} {w : World} {ops : Array Oper} {rest : List Oper} {o : Oper} {a : Act} {Q : Exit → Act → World → Prop}
theorem wp_range_raw (hg : o.guard = none) (m : Operand) (t k e : TypeId) (hop : o.op = Op.range t m) (ht : P.underlying t = some (.map k e)) (b : Nat) (es : Array MapEntry) (clock : Nat) (hm : a.eval m = .map (some b)) (hb : w.heap[b]? = some (.map es clock))
  (hK : ∀ w', Rg w' b w.heap.size es clock [] → w.grownBy w' none → w'.heap.size = w.heap.size + 1 → wpListIn F n P ops Q rest (a.put o.dst (.pointer (some ⟨w.heap.size, 0, none⟩))) w') :
  wpListIn F n P ops Q (o :: rest) a w := by
 refine wpListIn_plain hg fun K' hK' => ?_
 have hlt : b < w.heap.size := (Array.getElem?_eq_some_iff.1 hb).1
 have hrun := run_range_map (P := P) w t k e b es clock ht hb
 unfold Oper.wpIn
 refine ⟨by simp [Oper.about, hop], ?_⟩
 rw [Oper.semAt_plain F _ _ (by rw [hop]; intro c hc'; cases hc')]
 simp [execOp, hop, hm, hrun, Result.andThen]
 refine hK' _ _ (hK _ ⟨((MapKept.heap_alloc w _).2 b hlt).trans hb, ⟨clock, (MapKept.heap_alloc w _).1, Nat.le_refl _⟩, fun x hx => by simp at hx, by simp⟩ (World.grownBy_alloc w _ none) (by simp))
theorem wp_next_raw (hg : o.guard = none) (it : Operand) (hop : o.op = Op.next it false) {b r : Nat} {es : Array MapEntry} {clock : Nat} {xs : List MapEntry} (hit : a.eval it = .pointer (some ⟨r, 0, none⟩)) (h : Rg w b r es clock xs) (ho : BornOk es clock)
  (hDone : xs.Perm es.toList → wpListIn F n P ops Q rest (a.put o.dst (.tuple #[.bool false])) w)
  (hMore : ∀ (e : MapEntry) (w' : World), e ∈ es.toList → Rg w' b r es clock (xs ++ [e]) → w.grownBy w' (some r) → w'.heap.size = w.heap.size → (Instr.entry (.pointer (some ⟨r, 0, none⟩))).run P w' = .ok (.tuple #[e.key, e.val]) w' →
   wpListIn F n P ops Q rest (a.put o.dst (.tuple #[.bool true, e.key, e.val])) w') :
  wpListIn F n P ops Q (o :: rest) a w := by
 refine wpListIn_plain hg fun K' hK' => ?_
 unfold Oper.wpIn
 refine ⟨by simp [Oper.about, hop], ?_⟩
 rw [Oper.semAt_plain F _ _ (by rw [hop]; intro c hc'; cases hc')]
 rcases h.next (P := P) ho o.type with ⟨h0, hrun⟩ | ⟨e, w', he, hrun, hrg, hgr, hsz, hen⟩
 · simp [execOp, hop, hit, hrun, Result.andThen]
   exact hK' _ _ (hDone (h.perm ho h0))
 · simp [execOp, hop, hit, hrun, Result.andThen]
   exact hK' _ _ (hMore e w' he hrg hgr hsz hen)
end
end Go.Proofs.YtapfhcnigmighaaGreat.GD
