import Derived.Test.YtapfhcnigmighaaGreatHas
set_option linter.unusedVariables false
set_option linter.unusedSimpArgs false
namespace Go.Proofs.YtapfhcnigmighaaGreat.Own
open Go Go.Proofs.YtapfhcnigmighaaGreat.GD
theorem any_filter_at {f Q : D → Bool} {c : Bool} : ∀ {l : List D}, (∀ a, a ∈ l → Q a = true → f a = c) → (l.filter f).any Q = (l.any Q && c)
 | [], _ => by simp
 | a :: l, h => by
  have ih := any_filter_at (l := l) (fun b hb => h b (List.mem_cons_of_mem _ hb))
  have ha := h a (List.mem_cons_self ..)
  rw [List.filter_cons, List.any_cons]
  cases hf : f a <;> cases hq : Q a <;> simp_all
theorem eqO_iff {x d : D} (hx : Og x) (hd : Og d) : eqO x d = true ↔ d = x := eqCells_eta (ks := oKs) (by decide) hd.fit hx.fit
theorem eqK_iff {x d : D} (hx : Kg x) (hd : Kg d) : eqK x d = true ↔ d = x := eqCells_eta (ks := kKs) (by decide) hd.fit hx.fit
theorem ordO_eq {a b : D} (ha : Og a) (hb : Og b) (h : ordO a b = 0) : a = b := by
 have h := (cmpL_zero (a := oNums a) (b := oNums b) rfl).1 h
 simp only [oNums, List.cons.injEq] at h
 obtain ⟨h0, h1, h2, h3, h4, h5, _⟩ := h
 rw [← ha.eta, ← hb.eta]
 show D.agg [.int .u32 (a.cell 0).i, .int .u8 (a.cell 1).i, .int .u64 (a.cell 2).i, .int .u64 (a.cell 3).i, .int .i64 (a.cell 4).i, .int .i64 (a.cell 5).i] = D.agg [.int .u32 (b.cell 0).i, .int .u8 (b.cell 1).i, .int .u64 (b.cell 2).i, .int .u64 (b.cell 3).i, .int .i64 (b.cell 4).i, .int .i64 (b.cell 5).i]
 rw [h0, h1, h2, h3, h4, h5]
theorem ordK_eq {a b : D} (ha : Kg a) (hb : Kg b) (h : ordK a b = 0) : a = b := by
 have h := (cmpL_zero (a := (a.cell 0).i :: (rootN a 1 ++ [(a.cell 17).i])) (b := (b.cell 0).i :: (rootN b 1 ++ [(b.cell 17).i])) (by simp [rootN])).1 h
 obtain ⟨h0, h1⟩ := List.cons.inj h
 obtain ⟨h2, h3⟩ := List.append_inj h1 (by rw [rootN_len, rootN_len])
 have h3 := (List.cons.inj h3).1
 rw [← ha.eta, ← hb.eta]
 show D.agg (.int .u32 (a.cell 0).i :: ((rootN a 1).map (D.int .u8) ++ [.int .i64 (a.cell 17).i])) = D.agg (.int .u32 (b.cell 0).i :: ((rootN b 1).map (D.int .u8) ++ [.int .i64 (b.cell 17).i]))
 rw [h0, h2, h3]
theorem memO (x d : D) (o o' : List D) (hd : Og d) (ho : ∀ a, a ∈ o → Og a) (ho' : ∀ a, a ∈ o' → Og a) : (mO (o.filter fun a => !goneO x a) o').any (eqO d) = ((o.any (eqO d) && !goneO x d) || o'.any (eqO d)) := by
 rw [mrg_any, any_filter_at (c := !goneO x d)]
 · intro a ha hq
   rw [(eqO_iff hd (ho a ha)).1 hq]
 · intro a ha b hb h
   have := ordO_eq (ho a (List.mem_filter.1 ha).1) (ho' b hb) h
   subst this
   simp [fst2]
theorem memK (x d : D) (o o' : List D) (hd : Kg d) (ho : ∀ a, a ∈ o → Kg a) (ho' : ∀ a, a ∈ o' → Kg a) : (mK (o.filter fun a => !goneK x a) o').any (eqK d) = ((o.any (eqK d) && !goneK x d) || o'.any (eqK d)) := by
 rw [mrg_any, any_filter_at (c := !goneK x d)]
 · intro a ha hq
   rw [(eqK_iff hd (ho a ha)).1 hq]
 · intro a ha b hb h
   have := ordK_eq (ho a (List.mem_filter.1 ha).1) (ho' b hb) h
   subst this
   simp [fst2]
theorem memP (x : D) (v : Int) (o o' : List D) : (mP (o.filter fun a => !goneP x a) o').any (eqP v) = ((o.any (eqP v) && !decide (0 ≤ idx v (x.cell 2).els 0)) || o'.any (eqP v)) := by
 rw [mrg_any, any_filter_at (c := !decide (0 ≤ idx v (x.cell 2).els 0))]
 · intro a ha hq
   have : (a.cell 0).i = v := by simpa [eqP] using hq
   unfold goneP
   rw [this]
 · intro a ha b hb h
   have : (a.cell 0).i = (b.cell 0).i := sgn_zero.1 h
   have e : eqP v (unD a b) = eqP v a := rfl
   have e2 : eqP v b = eqP v a := by unfold eqP; rw [this]
   rw [e, e2]; simp
end Go.Proofs.YtapfhcnigmighaaGreat.Own
