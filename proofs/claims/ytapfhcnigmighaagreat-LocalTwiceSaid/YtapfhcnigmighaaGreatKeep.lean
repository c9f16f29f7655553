import Derived.Test.YtapfhcnigmighaaGreatLocal2
import Derived.Test.YtapfhcnigmighaaGreatListP
set_option linter.unusedVariables false
set_option linter.unusedSimpArgs false
namespace Go.Proofs.YtapfhcnigmighaaGreat.Own
open Go Go.Proofs.YtapfhcnigmighaaGreat.GD
theorem index_loop {F : List D → (List D → Option (List D)) → Option (List D)} (l : List D) (p : D → Bool) (hl : l.length ≤ 60000) (step : ∀ i (hi : i < l.length), ∀ ag, F [.int .i64 i] ag = if p l[i] = true then some [.int .i64 i] else ag [.int .i64 ((i : Int) + 1)]) (fin : ∀ ag, F [.int .i64 l.length] ag = some [.int .i64 (-1)]) : iter 60001 F [.int .i64 0] = some [.int .i64 (idxT p l 0)] := by
 have := iter_ix (R := List D) (F := F) l.length (fun i => [.int .i64 i]) (fun i => some [.int .i64 (idxT p (l.drop i) i)]) (fun i hi ag ha => ?_) (fun ag => ?_) 60001 (by omega) 0 (by omega)
 · simpa using this
 · rw [List.drop_eq_getElem_cons hi, step i hi ag]
   unfold idxT
   split
   · rfl
   · rw [← ha]; rfl
 · rw [fin, List.drop_length]
   rfl
theorem delete_loop {F : List D → (List D → Option (List D)) → Option (List D)} (te : TypeId) (nb : Bool) (l : List D) (p : D → Bool) (hl : l.length ≤ 60000)
  (step : ∀ (i q : Nat) (els : List D) ag, q < l.length → i ≤ q → els.length = l.length → els.getD q .undef = l.getD q .undef → F [.int .i64 i, .int .i64 q, .ov te nb els] ag =
   if p (l.getD q .undef) = true then ag [.int .i64 i, .int .i64 ((q : Int) + 1), .ov te nb els] else ag [.int .i64 ((i : Int) + 1), .int .i64 ((q : Int) + 1), .ov te nb (els.set i (l.getD q .undef))])
  (fin : ∀ (i : Nat) (els : List D) ag, i ≤ l.length → els.length = l.length → (∀ x : List D, ((els.take i ++ x).take (i - (0 : Int).toNat)) = els.take i) → F [.int .i64 i, .int .i64 l.length, .ov te nb els] ag = some [.ov te nb (els.take i)])
  (j : Nat) (h2 : j < l.length) (h3 : (l.take j).filter (fun d => !p d) = l.take j) (h4 : p (l.getD j .undef) = true) : iter 60001 F [.int .i64 j, .int .i64 ((j : Int) + 1), .ov te nb l] = some [.ov te nb (l.filter fun d => !p d)] := by
 have := iter_wf (R := List D) (F := F) (fun s : Nat × Nat × List D => [.int .i64 s.1, .int .i64 s.2.1, .ov te nb s.2.2]) (fun _ => some [.ov te nb (l.filter fun d => !p d)]) (fun s => l.length - s.2.1)
  (fun s => s.2.2.length = l.length ∧ s.1 ≤ s.2.1 ∧ s.2.1 ≤ l.length ∧ s.2.2.take s.1 = (l.take s.2.1).filter (fun d => !p d) ∧ s.2.2.drop s.2.1 = l.drop s.2.1) (fun s hs ag ih => ?_) 60001 (j, j + 1, l)
  ⟨rfl, by dsimp only; omega, by dsimp only; omega, by
   dsimp only
   rw [List.take_add_one, List.filter_append, h3]
   simp [zq1, h2] at h4
   simp [h2, h4], rfl⟩ (by dsimp only; omega)
 · dsimp only at this
   exact this
 · obtain ⟨i, q, els⟩ := s
   obtain ⟨g1, g2, g3, g4, g5⟩ := hs
   dsimp only at g1 g2 g3 g4 g5 ih ⊢
   rcases Nat.lt_or_ge q l.length with c | c
   · rw [step i q els ag c g2 g1 (thin_get g1 c g5)]
     cases hc : p (l.getD q .undef)
     · obtain ⟨t1, t2, t3⟩ := thin_put g1 g2 c g4 g5 hc
       exact ih (i + 1, q + 1, els.set i (l.getD q .undef)) ⟨t1, by dsimp only; omega, by dsimp only; omega, t2, t3⟩ (by dsimp only; omega)
     · obtain ⟨t2, t3⟩ := thin_skip c g4 g5 hc
       exact ih (i, q + 1, els) ⟨g1, by dsimp only; omega, by dsimp only; omega, t2, t3⟩ (by dsimp only; omega)
   · obtain rfl : q = l.length := by omega
     rw [List.take_length] at g4
     rw [fin i els ag g2 g1 fun x => by rw [show i - (0 : Int).toNat = i from rfl, List.take_append_of_le_length (by simp; omega), List.take_take, Nat.min_self], g4]
section
variable (n1 n2 n3 n4 n5 n6 : Bool) (l1 l2 l3 l4 l5 l6 : List D) (p : D → Bool) (n : Bool) (l : List D) (hl : l.length ≤ 60000) (hE : ∀ d, d ∈ l → D.agg (etaCells ks1 d 0) = d)
 (hp : ∀ d, d ∈ l → Cl ty tab 55 [d, D.rp [D.sl 70 n1 l1, D.sl 73 n2 l2, D.sl 51 n3 l3, D.sl 58 n4 l4, D.sl 84 n5 l5, D.sl 64 n6 l6] 0] = some [.bool (p d)])
include hl hE hp
theorem ixKeepO : Cl ty tab 146 [.sl 58 n l, .fn 55 [D.rp [D.sl 70 n1 l1, D.sl 73 n2 l2, D.sl 51 n3 l3, D.sl 58 n4 l4, D.sl 84 n5 l5, D.sl 64 n6 l6] 0]] = some [.int .i64 (idxT p l 0)] := by
 refine s_slices_IndexFunc_146 60001 n l n1 l1 n2 l2 n3 l3 n4 l4 n5 l5 n6 l6 (index_loop l p hl (fun i hi ag => ?_) fun ag => ?_)
 · unfold slices_IndexFunc_146.b0
   have hm := List.getElem_mem hi
   have e := hE _ hm
   have e2 := hp _ hm
   clear hE hp
   cases hc : p l[i] <;> simp (disch := omega) only [gds, getD_get, e, e2, hc]
 · unfold slices_IndexFunc_146.b0
   simp (disch := omega) only [gds]
theorem keepO_ok (hn : n = true → l = []) : ∃ nb, (nb = true → l = []) ∧ Cl ty tab 54 [.sl 58 n l, .fn 55 [D.rp [D.sl 70 n1 l1, D.sl 73 n2 l2, D.sl 51 n3 l3, D.sl 58 n4 l4, D.sl 84 n5 l5, D.sl 64 n6 l6] 0]] = some [.ov 58 nb (l.filter fun d => !p d)] := by
 have hcl : ∃ nb, (nb = true → l = []) ∧ Cl ty tab 114 [.sl 58 n l] = some [.ov 58 nb l] := by
  cases n with
  | true => exact ⟨true, hn, s_slices_Clone_114 0 true l (by unfold slices_Clone_114; rw [hn rfl]; rfl)⟩
  | false => exact ⟨l.isEmpty && false, fun h => by simp at h, s_slices_Clone_114 0 false l (by unfold slices_Clone_114; simp (disch := omega) only [gds])⟩
 obtain ⟨nb, hnb, hcl⟩ := hcl
 refine ⟨nb, hnb, s_local_keep_54 0 n l n1 l1 n2 l2 n3 l3 n4 l4 n5 l5 n6 l6 ?_⟩
 unfold local_keep_54
 have hx := ixKeepO n1 n2 n3 n4 n5 n6 l1 l2 l3 l4 l5 l6 p nb l hl hE hp
 have hd : Cl ty tab 117 [.ov 58 nb l, .fn 55 [D.rp [D.sl 70 n1 l1, D.sl 73 n2 l2, D.sl 51 n3 l3, D.sl 58 n4 l4, D.sl 84 n5 l5, D.sl 64 n6 l6] 0]] = some [.ov 58 nb (l.filter fun d => !p d)] := by
  refine s_slices_DeleteFunc_117 60001 nb l n1 l1 n2 l2 n3 l3 n4 l4 n5 l5 n6 l6 ?_
  unfold slices_DeleteFunc_117
  rw [hx]
  by_cases h0 : idxT p l 0 = -1
  · simp (disch := omega) only [gds, h0, idxT_none h0]
  · obtain ⟨j, h1, h2, h3, h4⟩ := idxT_some h0
    rw [Nat.zero_add] at h1
    have := delete_loop (F := slices_DeleteFunc_117.b0 (Cl ty tab) 60001 l n1 l1 n2 l2 n3 l3 n4 l4 n5 l5 n6 l6) 58 nb l p hl (fun i q els ag c g2 g1 e3 => ?_) (fun i els ag g2 g1 e4 => ?_) j h2 h3 h4
    · rw [h1]
      simp (disch := omega) only [gds]
      exact this
    · unfold slices_DeleteFunc_117.b0
      have hm : l.getD q .undef ∈ l := mem_getD c
      have e := hE _ hm
      have e2 := hp _ hm
      clear hE hp
      cases hc : p (l.getD q .undef) <;> simp (disch := omega) only [gds, e3, e, e2, hc]
    · unfold slices_DeleteFunc_117.b0
      clear hE hp
      simp (disch := omega) only [gds, e4]
 simp (disch := omega) only [gds, hcl, hd]
end
section
variable (n1 n2 n3 n4 n5 n6 : Bool) (l1 l2 l3 l4 l5 l6 : List D) (p : D → Bool) (n : Bool) (l : List D) (hl : l.length ≤ 60000) (hE : ∀ d, d ∈ l → D.agg (kKsE d 0) = d)
 (hp : ∀ d, d ∈ l → Cl ty tab 59 [d, D.rp [D.sl 70 n1 l1, D.sl 73 n2 l2, D.sl 51 n3 l3, D.sl 58 n4 l4, D.sl 84 n5 l5, D.sl 64 n6 l6] 0] = some [.bool (p d)])
include hl hE hp
theorem ixKeepK : Cl ty tab 147 [.sl 64 n l, .fn 59 [D.rp [D.sl 70 n1 l1, D.sl 73 n2 l2, D.sl 51 n3 l3, D.sl 58 n4 l4, D.sl 84 n5 l5, D.sl 64 n6 l6] 0]] = some [.int .i64 (idxT p l 0)] := by
 refine s_slices_IndexFunc_147 60001 n l n1 l1 n2 l2 n3 l3 n4 l4 n5 l5 n6 l6 (index_loop l p hl (fun i hi ag => ?_) fun ag => ?_)
 · unfold slices_IndexFunc_147.b0
   have hm := List.getElem_mem hi
   have e := hE _ hm
   have e2 := hp _ hm
   clear hE hp
   cases hc : p l[i] <;> simp (disch := omega) only [gds, getD_get, e, e2, hc]
 · unfold slices_IndexFunc_147.b0
   simp (disch := omega) only [gds]
theorem keepK_ok (hn : n = true → l = []) : ∃ nb, (nb = true → l = []) ∧ Cl ty tab 58 [.sl 64 n l, .fn 59 [D.rp [D.sl 70 n1 l1, D.sl 73 n2 l2, D.sl 51 n3 l3, D.sl 58 n4 l4, D.sl 84 n5 l5, D.sl 64 n6 l6] 0]] = some [.ov 64 nb (l.filter fun d => !p d)] := by
 have hcl : ∃ nb, (nb = true → l = []) ∧ Cl ty tab 115 [.sl 64 n l] = some [.ov 64 nb l] := by
  cases n with
  | true => exact ⟨true, hn, s_slices_Clone_115 0 true l (by unfold slices_Clone_115; rw [hn rfl]; rfl)⟩
  | false => exact ⟨l.isEmpty && false, fun h => by simp at h, s_slices_Clone_115 0 false l (by unfold slices_Clone_115; simp (disch := omega) only [gds])⟩
 obtain ⟨nb, hnb, hcl⟩ := hcl
 refine ⟨nb, hnb, s_local_keep_58 0 n l n1 l1 n2 l2 n3 l3 n4 l4 n5 l5 n6 l6 ?_⟩
 unfold local_keep_58
 have hx := ixKeepK n1 n2 n3 n4 n5 n6 l1 l2 l3 l4 l5 l6 p nb l hl hE hp
 have hd : Cl ty tab 119 [.ov 64 nb l, .fn 59 [D.rp [D.sl 70 n1 l1, D.sl 73 n2 l2, D.sl 51 n3 l3, D.sl 58 n4 l4, D.sl 84 n5 l5, D.sl 64 n6 l6] 0]] = some [.ov 64 nb (l.filter fun d => !p d)] := by
  refine s_slices_DeleteFunc_119 60001 nb l n1 l1 n2 l2 n3 l3 n4 l4 n5 l5 n6 l6 ?_
  unfold slices_DeleteFunc_119
  rw [hx]
  by_cases h0 : idxT p l 0 = -1
  · simp (disch := omega) only [gds, h0, idxT_none h0]
  · obtain ⟨j, h1, h2, h3, h4⟩ := idxT_some h0
    rw [Nat.zero_add] at h1
    have := delete_loop (F := slices_DeleteFunc_119.b0 (Cl ty tab) 60001 l n1 l1 n2 l2 n3 l3 n4 l4 n5 l5 n6 l6) 64 nb l p hl (fun i q els ag c g2 g1 e3 => ?_) (fun i els ag g2 g1 e4 => ?_) j h2 h3 h4
    · rw [h1]
      simp (disch := omega) only [gds]
      exact this
    · unfold slices_DeleteFunc_119.b0
      have hm : l.getD q .undef ∈ l := mem_getD c
      have e := hE _ hm
      have e2 := hp _ hm
      clear hE hp
      cases hc : p (l.getD q .undef) <;> simp (disch := omega) only [gds, e3, e, e2, hc]
    · unfold slices_DeleteFunc_119.b0
      clear hE hp
      simp (disch := omega) only [gds, e4]
 simp (disch := omega) only [gds, hcl, hd]
end
section
variable (n1 n2 n3 n4 n5 n6 : Bool) (l1 l2 l3 l4 l5 l6 : List D) (p : D → Bool) (n : Bool) (l : List D) (hl : l.length ≤ 60000) (hE : ∀ d, d ∈ l → D.agg [(D.int .u32 ((d.cell 0).i)), (D.sl 51 (d.cell 1).nb (d.cell 1).els)] = d)
 (hp : ∀ d, d ∈ l → Cl ty tab 63 [d, D.rp [D.sl 70 n1 l1, D.sl 73 n2 l2, D.sl 51 n3 l3, D.sl 58 n4 l4, D.sl 84 n5 l5, D.sl 64 n6 l6] 0] = some [.bool (p d)])
include hl hE hp
theorem ixKeepP : Cl ty tab 132 [.sl 84 n l, .fn 63 [D.rp [D.sl 70 n1 l1, D.sl 73 n2 l2, D.sl 51 n3 l3, D.sl 58 n4 l4, D.sl 84 n5 l5, D.sl 64 n6 l6] 0]] = some [.int .i64 (idxT p l 0)] := by
 refine s_slices_IndexFunc_132 60001 n l n1 l1 n2 l2 n3 l3 n4 l4 n5 l5 n6 l6 (index_loop l p hl (fun i hi ag => ?_) fun ag => ?_)
 · unfold slices_IndexFunc_132.b0
   have hm := List.getElem_mem hi
   have e := hE _ hm
   have e2 := hp _ hm
   clear hE hp
   cases hc : p l[i] <;> simp (disch := omega) only [gds, getD_get, e, e2, hc]
 · unfold slices_IndexFunc_132.b0
   simp (disch := omega) only [gds]
theorem keepP_ok (hn : n = true → l = []) : ∃ nb, (nb = true → l = []) ∧ Cl ty tab 62 [.sl 84 n l, .fn 63 [D.rp [D.sl 70 n1 l1, D.sl 73 n2 l2, D.sl 51 n3 l3, D.sl 58 n4 l4, D.sl 84 n5 l5, D.sl 64 n6 l6] 0]] = some [.ov 84 nb (l.filter fun d => !p d)] := by
 have hcl : ∃ nb, (nb = true → l = []) ∧ Cl ty tab 122 [.sl 84 n l] = some [.ov 84 nb l] := by
  cases n with
  | true => exact ⟨true, hn, s_slices_Clone_122 0 true l (by unfold slices_Clone_122; rw [hn rfl]; rfl)⟩
  | false => exact ⟨l.isEmpty && false, fun h => by simp at h, s_slices_Clone_122 0 false l (by unfold slices_Clone_122; simp (disch := omega) only [gds])⟩
 obtain ⟨nb, hnb, hcl⟩ := hcl
 refine ⟨nb, hnb, s_local_keep_62 0 n l n1 l1 n2 l2 n3 l3 n4 l4 n5 l5 n6 l6 ?_⟩
 unfold local_keep_62
 have hx := ixKeepP n1 n2 n3 n4 n5 n6 l1 l2 l3 l4 l5 l6 p nb l hl hE hp
 have hd : Cl ty tab 121 [.ov 84 nb l, .fn 63 [D.rp [D.sl 70 n1 l1, D.sl 73 n2 l2, D.sl 51 n3 l3, D.sl 58 n4 l4, D.sl 84 n5 l5, D.sl 64 n6 l6] 0]] = some [.ov 84 nb (l.filter fun d => !p d)] := by
  refine s_slices_DeleteFunc_121 60001 nb l n1 l1 n2 l2 n3 l3 n4 l4 n5 l5 n6 l6 ?_
  unfold slices_DeleteFunc_121
  rw [hx]
  by_cases h0 : idxT p l 0 = -1
  · simp (disch := omega) only [gds, h0, idxT_none h0]
  · obtain ⟨j, h1, h2, h3, h4⟩ := idxT_some h0
    rw [Nat.zero_add] at h1
    have := delete_loop (F := slices_DeleteFunc_121.b0 (Cl ty tab) 60001 l n1 l1 n2 l2 n3 l3 n4 l4 n5 l5 n6 l6) 84 nb l p hl (fun i q els ag c g2 g1 e3 => ?_) (fun i els ag g2 g1 e4 => ?_) j h2 h3 h4
    · rw [h1]
      simp (disch := omega) only [gds]
      exact this
    · unfold slices_DeleteFunc_121.b0
      have hm : l.getD q .undef ∈ l := mem_getD c
      have e := hE _ hm
      have e2 := hp _ hm
      clear hE hp
      cases hc : p (l.getD q .undef) <;> simp (disch := omega) only [gds, e3, e, e2, hc]
    · unfold slices_DeleteFunc_121.b0
      clear hE hp
      simp (disch := omega) only [gds, e4]
 simp (disch := omega) only [gds, hcl, hd]
end
end Go.Proofs.YtapfhcnigmighaaGreat.Own
