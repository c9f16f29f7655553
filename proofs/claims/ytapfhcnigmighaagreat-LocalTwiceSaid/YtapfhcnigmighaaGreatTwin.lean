import Derived.Test.YtapfhcnigmighaaGreatPred
set_option linter.unusedVariables false
set_option linter.unusedSimpArgs false
namespace Go.Proofs.YtapfhcnigmighaaGreat.Own
open Go Go.Proofs.YtapfhcnigmighaaGreat.GD
structure Nn (d : D) : Prop where
 nb : (d.cell 1).nb = true → (d.cell 1).els = []
 len : (d.cell 1).els.length ≤ 60000
theorem cloneP_ok (n : Bool) (l : List D) (hn : n = true → l = []) (hl : l.length ≤ 60000) : Cl ty tab 145 [.sl 51 n l] = some [.ov 51 n l] := by
 cases n with
 | true =>
  refine s_slices_Clone_145 0 true l ?_
  unfold slices_Clone_145
  rw [hn rfl]
  rfl
 | false =>
  refine s_slices_Clone_145 0 false l ?_
  unfold slices_Clone_145
  have e : (l.isEmpty && false) = false := by simp
  simp (disch := omega) only [gds, e]
theorem cloneO_ok (n : Bool) (l : List D) (hn : n = true → l = []) (hl : l.length ≤ 60000) : Cl ty tab 114 [.sl 58 n l] = some [.ov 58 n l] := by
 cases n with
 | true =>
  refine s_slices_Clone_114 0 true l ?_
  unfold slices_Clone_114
  rw [hn rfl]
  rfl
 | false =>
  refine s_slices_Clone_114 0 false l ?_
  unfold slices_Clone_114
  have e : (l.isEmpty && false) = false := by simp
  simp (disch := omega) only [gds, e]
theorem cloneK_ok (n : Bool) (l : List D) (hn : n = true → l = []) (hl : l.length ≤ 60000) : Cl ty tab 115 [.sl 64 n l] = some [.ov 64 n l] := by
 cases n with
 | true =>
  refine s_slices_Clone_115 0 true l ?_
  unfold slices_Clone_115
  rw [hn rfl]
  rfl
 | false =>
  refine s_slices_Clone_115 0 false l ?_
  unfold slices_Clone_115
  have e : (l.isEmpty && false) = false := by simp
  simp (disch := omega) only [gds, e]
theorem twinPath_ok (d : D) (hd : Pg d) (hn : Nn d) : Cl ty tab 116 [d] = some [d] := by
 have := s_diff_twinPath 0 (d.cell 0).i (d.cell 1).nb (d.cell 1).els (r := [d]) ?_
 · rwa [hd.eta] at this
 unfold diff_twinPath
 have h := cloneP_ok (d.cell 1).nb (d.cell 1).els hn.nb hn.len
 simp (disch := omega) only [gds, h]
 rw [hd.eta]
theorem twin_ok (n m t : Bool) (o p q : List D) (hn : n = true → o = []) (ht : t = true → q = []) (ho : o.length ≤ 60000) (hp : p.length ≤ 60000) (hq : q.length ≤ 60000) (hP : ∀ d, d ∈ p → Pg d ∧ Nn d) : Cl ty tab 53 [payD n m t o p q] = some [payD n p.isEmpty t o p q] := by
 obtain ⟨k, hk⟩ := rounds
 refine s_diff_Twin k _ _ _ _ _ _ ?_
 unfold diff_Twin
 have c1 := cloneO_ok n o hn ho
 have c2 := cloneK_ok t q ht hq
 have := iter_wf (F := diff_Twin.b0 (Cl ty tab) k p) (σ := Bool × Nat) (fun s => [.int .i64 s.2, .pv [.ov 58 true [], .ov 84 true [], .ov 64 true []], .pv [.ov 58 n o, .ov 84 s.1 (p.take s.2), .ov 64 t q]])
  (fun s => some [payD n p.isEmpty t o p q]) (fun s => p.length - s.2) (fun s => s.2 ≤ p.length ∧ s.1 = decide (s.2 = 0)) (fun s hs again ha => ?_) k (true, 0) ⟨by simp only; omega, by simp⟩ (by simp only; omega)
 · simp only [List.take_zero, Int.natCast_zero] at this
   simp (disch := omega) only [gds, c1, c2, this]
 · obtain ⟨b, i⟩ := s
   obtain ⟨s1, s2⟩ := hs
   simp only at s1 s2 ha ⊢
   unfold diff_Twin.b0
   by_cases hi : i < p.length
   · obtain ⟨g1, g2⟩ := hP p[i] (List.getElem_mem hi)
     have ht : p.take i ++ [p[i]] = p.take (i + 1) := by rw [List.take_succ_eq_append_getElem hi]
     have hl : (p.take i).length = i := by simp; omega
     have hw := twinPath_ok p[i] g1 g2
     have e := g1.eta
     have := ha (false, i + 1) ⟨by simp only; omega, by simp⟩ (by simp only; omega)
     clear ha
     simp only [Int.natCast_add, Int.natCast_one] at this
     rw [← ht] at this
     simp (disch := omega) only [gds, getD_get, hl, e, hw] at this ⊢
     exact this
   · have e : i = p.length := by omega
     subst e
     have e3 : b = p.isEmpty := by
      rw [s2]
      cases p <;> simp
     rw [List.take_length, e3]
     simp (disch := omega) only [gds]
end Go.Proofs.YtapfhcnigmighaaGreat.Own
