import Derived.Test.YtapfhcnigmighaaGreatFilter
set_option linter.unusedVariables false
set_option linter.unusedSimpArgs false
namespace Go.Proofs.YtapfhcnigmighaaGreat.Own
open Go Go.Proofs.YtapfhcnigmighaaGreat.GD
def mrg (c : D → D → Int) (e : D → D → D) : List D → List D → List D
 | [], b => b
 | x :: a, [] => x :: a
 | x :: a, y :: b => if c x y < 0 then x :: mrg c e a (y :: b) else if 0 < c x y then y :: mrg c e (x :: a) b else e x y :: mrg c e a b
termination_by a b => a.length + b.length
theorem tl_eq (x : D) (a : List D) : List.take (a.length + 1 - Int.toNat 1) (List.drop (Int.toNat 1) (x :: a)) = a := by
 rw [show Int.toNat 1 = 1 from rfl]; simp
theorem mrg_cc (c : D → D → Int) (e : D → D → D) (x y : D) (a b : List D) : mrg c e (x :: a) (y :: b) = if c x y < 0 then x :: mrg c e a (y :: b) else if 0 < c x y then y :: mrg c e (x :: a) b else e x y :: mrg c e a b := by
 rw [mrg]
theorem toNat_succ (n : Nat) : ((n : Int) + 1).toNat = n + 1 := by omega
theorem merge_loop {F : List D → (List D → Option (List D)) → Option (List D)} (c : D → D → Int) (e : D → D → D) (te : TypeId) (n1 n2 : Bool) (a0 b0 : List D) (ha : a0.length ≤ 60000) (hb : b0.length ≤ 60000)
  (h0 : ∀ b o ag, b.length + o.length ≤ 120000 → F [.sl te n1 [], .sl te n2 b, .ov te false o] ag = some [.ov te false (o ++ b)])
  (h1 : ∀ x a o ag, a.length + 1 + o.length ≤ 120000 → F [.sl te n1 (x :: a), .sl te n2 [], .ov te false o] ag = some [.ov te false (o ++ x :: a)])
  (h2 : ∀ x a y b o ag, x ∈ a0 → y ∈ b0 → a.length + 1 + (b.length + 1) + o.length ≤ 120000 → F [.sl te n1 (x :: a), .sl te n2 (y :: b), .ov te false o] ag =
   if c x y < 0 then ag [.sl te n1 a, .sl te n2 (y :: b), .ov te false (o ++ [x])] else if 0 < c x y then ag [.sl te n1 (x :: a), .sl te n2 b, .ov te false (o ++ [y])] else ag [.sl te n1 a, .sl te n2 b, .ov te false (o ++ [e x y])]) :
  iter 120001 F [.sl te n1 a0, .sl te n2 b0, .ov te false []] = some [.ov te false (mrg c e a0 b0)] := by
 refine iter_wf (R := List D) (F := F) (fun s : List D × List D × List D => [.sl te n1 s.1, .sl te n2 s.2.1, .ov te false s.2.2]) (fun _ => some [.ov te false (mrg c e a0 b0)]) (fun s => s.1.length + s.2.1.length)
  (fun s => s.2.2 ++ mrg c e s.1 s.2.1 = mrg c e a0 b0 ∧ (∀ d, d ∈ s.1 → d ∈ a0) ∧ (∀ d, d ∈ s.2.1 → d ∈ b0) ∧ s.1.length + s.2.1.length + s.2.2.length ≤ 120000) (fun s hs ag ih => ?_) 120001 (a0, b0, []) ⟨rfl, fun d h => h, fun d h => h, by simp; omega⟩ (by dsimp only; omega)
 obtain ⟨a, b, o⟩ := s
 obtain ⟨g1, g2, g3, g4⟩ := hs
 dsimp only at g1 g2 g3 g4 ih ⊢
 cases a with
 | nil =>
  rw [h0 _ _ _ (by simpa using g4), ← g1]
  unfold mrg; rfl
 | cons x a =>
  cases b with
  | nil =>
   rw [h1 _ _ _ _ (by simpa using g4), ← g1]
   unfold mrg; rfl
  | cons y b =>
   rw [h2 x a y b o ag (g2 x (List.mem_cons_self ..)) (g3 y (List.mem_cons_self ..)) (by simpa using g4)]
   rw [mrg_cc] at g1
   simp only [List.length_cons] at g4
   have ta : ∀ d, d ∈ a → d ∈ a0 := fun d hd => g2 d (List.mem_cons_of_mem _ hd)
   have tb : ∀ d, d ∈ b → d ∈ b0 := fun d hd => g3 d (List.mem_cons_of_mem _ hd)
   split
   · rename_i c1
     rw [if_pos c1] at g1
     exact ih (a, y :: b, o ++ [x]) ⟨by dsimp only; rw [List.append_assoc]; exact g1, ta, g3, by simp; omega⟩ (by simp only [List.length_cons]; omega)
   · rename_i c1
     rw [if_neg c1] at g1
     split
     · rename_i c2
       rw [if_pos c2] at g1
       exact ih (x :: a, b, o ++ [y]) ⟨by dsimp only; rw [List.append_assoc]; exact g1, g2, tb, by simp; omega⟩ (by simp only [List.length_cons]; omega)
     · rename_i c2
       rw [if_neg c2] at g1
       exact ih (a, b, o ++ [e x y]) ⟨by dsimp only; rw [List.append_assoc]; exact g1, ta, tb, by simp; omega⟩ (by simp only [List.length_cons]; omega)
theorem mergeO_ok (c : D → D → Int) (e : D → D → D) (n1 n2 : Bool) (a0 b0 : List D) (hE : ∀ d, d ∈ a0 ∨ d ∈ b0 → D.agg (etaCells ks1 d 0) = d) (hE2 : ∀ x y, x ∈ a0 → y ∈ b0 → D.agg (etaCells ks1 (e x y) 0) = e x y)
  (hc : ∀ x y, x ∈ a0 → y ∈ b0 → Cl ty tab 97 [x, y] = some [.int .i64 (c x y)]) (he : ∀ x y, x ∈ a0 → y ∈ b0 → Cl ty tab 101 [x, y] = some [e x y]) (ha : a0.length ≤ 60000) (hb : b0.length ≤ 60000) :
  Cl ty tab 100 [.agg [.fn 97 [], .nilfn], .sl 58 n1 a0, .sl 58 n2 b0, .fn 101 []] = some [.ov 58 false (mrg c e a0 b0)] := by
 refine s_api_Origin_merge 120001 n1 a0 n2 b0 ?_
 unfold api_Origin_merge
 have := merge_loop (F := api_Origin_merge.b0 (Cl ty tab) 120001) c e 58 n1 n2 a0 b0 ha hb (fun b o ag hl => ?_) (fun x a o ag hl => ?_) (fun x a y b o ag mx my hl => ?_)
 · simp (disch := omega) only [gds, List.replicate, Int.toNat_zero, Int.natCast_add]
   exact this
 · unfold api_Origin_merge.b0
   simp (disch := omega) only [gds, List.append_nil, List.isEmpty_nil, List.length_nil]
 · unfold api_Origin_merge.b0
   simp (disch := omega) only [gds, List.append_nil, List.isEmpty_nil, List.isEmpty_cons, List.length_nil, List.length_cons, List.length_append]
 · unfold api_Origin_merge.b0
   have ex := hE x (.inl mx)
   have ey := hE y (.inr my)
   have exy := hE2 x y mx my
   have hcc := hc x y mx my
   have hee := he x y mx my
   clear hc he hE hE2
   by_cases c1 : c x y < 0
   · simp (disch := omega) only [gds, ex, ey, hcc, c1, List.length_cons, List.getD_cons_zero, tl_eq, toNat_succ, List.length_nil, List.length_append]
   · by_cases c2 : 0 < c x y
     · simp (disch := omega) only [gds, ex, ey, hcc, c1, c2, List.length_cons, List.getD_cons_zero, tl_eq, toNat_succ, List.length_nil, List.length_append]
     · simp (disch := omega) only [gds, ex, ey, exy, hcc, hee, c1, c2, List.length_cons, List.getD_cons_zero, tl_eq, toNat_succ, List.length_nil, List.length_append]
theorem mergeK_ok (c : D → D → Int) (e : D → D → D) (n1 n2 : Bool) (a0 b0 : List D) (hE : ∀ d, d ∈ a0 ∨ d ∈ b0 → D.agg (kKsE d 0) = d) (hE2 : ∀ x y, x ∈ a0 → y ∈ b0 → D.agg (kKsE (e x y) 0) = e x y)
  (hc : ∀ x y, x ∈ a0 → y ∈ b0 → Cl ty tab 99 [x, y] = some [.int .i64 (c x y)]) (he : ∀ x y, x ∈ a0 → y ∈ b0 → Cl ty tab 105 [x, y] = some [e x y]) (ha : a0.length ≤ 60000) (hb : b0.length ≤ 60000) :
  Cl ty tab 104 [.agg [.fn 99 [], .nilfn], .sl 64 n1 a0, .sl 64 n2 b0, .fn 105 []] = some [.ov 64 false (mrg c e a0 b0)] := by
 refine s_api_RouterKey_merge 120001 n1 a0 n2 b0 ?_
 unfold api_RouterKey_merge
 have := merge_loop (F := api_RouterKey_merge.b0 (Cl ty tab) 120001) c e 64 n1 n2 a0 b0 ha hb (fun b o ag hl => ?_) (fun x a o ag hl => ?_) (fun x a y b o ag mx my hl => ?_)
 · simp (disch := omega) only [gds, List.replicate, Int.toNat_zero, Int.natCast_add]
   exact this
 · unfold api_RouterKey_merge.b0
   simp (disch := omega) only [gds, List.append_nil, List.isEmpty_nil, List.length_nil]
 · unfold api_RouterKey_merge.b0
   simp (disch := omega) only [gds, List.append_nil, List.isEmpty_nil, List.isEmpty_cons, List.length_nil, List.length_cons, List.length_append]
 · unfold api_RouterKey_merge.b0
   have ex := hE x (.inl mx)
   have ey := hE y (.inr my)
   have exy := hE2 x y mx my
   have hcc := hc x y mx my
   have hee := he x y mx my
   clear hc he hE hE2
   by_cases c1 : c x y < 0
   · simp (disch := omega) only [gds, ex, ey, hcc, c1, List.length_cons, List.getD_cons_zero, tl_eq, toNat_succ, List.length_nil, List.length_append]
   · by_cases c2 : 0 < c x y
     · simp (disch := omega) only [gds, ex, ey, hcc, c1, c2, List.length_cons, List.getD_cons_zero, tl_eq, toNat_succ, List.length_nil, List.length_append]
     · simp (disch := omega) only [gds, ex, ey, exy, hcc, hee, c1, c2, List.length_cons, List.getD_cons_zero, tl_eq, toNat_succ, List.length_nil, List.length_append]
theorem mergeP_ok (c : D → D → Int) (e : D → D → D) (n1 n2 : Bool) (a0 b0 : List D) (hE : ∀ d, d ∈ a0 ∨ d ∈ b0 → D.agg [(D.int .u32 ((d.cell 0).i)), (D.sl 51 (d.cell 1).nb (d.cell 1).els)] = d) (hE2 : ∀ x y, x ∈ a0 → y ∈ b0 → D.agg [(D.int .u32 (((e x y).cell 0).i)), (D.sl 51 ((e x y).cell 1).nb ((e x y).cell 1).els)] = e x y)
  (hc : ∀ x y, x ∈ a0 → y ∈ b0 → Cl ty tab 98 [x, y] = some [.int .i64 (c x y)]) (he : ∀ x y, x ∈ a0 → y ∈ b0 → Cl ty tab 103 [x, y] = some [e x y]) (ha : a0.length ≤ 60000) (hb : b0.length ≤ 60000) :
  Cl ty tab 102 [.agg [.fn 98 [], .nilfn], .sl 84 n1 a0, .sl 84 n2 b0, .fn 103 []] = some [.ov 84 false (mrg c e a0 b0)] := by
 refine s_api_Attest_merge 120001 n1 a0 n2 b0 ?_
 unfold api_Attest_merge
 have := merge_loop (F := api_Attest_merge.b0 (Cl ty tab) 120001) c e 84 n1 n2 a0 b0 ha hb (fun b o ag hl => ?_) (fun x a o ag hl => ?_) (fun x a y b o ag mx my hl => ?_)
 · simp (disch := omega) only [gds, List.replicate, Int.toNat_zero, Int.natCast_add]
   exact this
 · unfold api_Attest_merge.b0
   simp (disch := omega) only [gds, List.append_nil, List.isEmpty_nil, List.length_nil]
 · unfold api_Attest_merge.b0
   simp (disch := omega) only [gds, List.append_nil, List.isEmpty_nil, List.isEmpty_cons, List.length_nil, List.length_cons, List.length_append]
 · unfold api_Attest_merge.b0
   have ex := hE x (.inl mx)
   have ey := hE y (.inr my)
   have exy := hE2 x y mx my
   have hcc := hc x y mx my
   have hee := he x y mx my
   clear hc he hE hE2
   by_cases c1 : c x y < 0
   · simp (disch := omega) only [gds, ex, ey, hcc, c1, List.length_cons, List.getD_cons_zero, tl_eq, toNat_succ, List.length_nil, List.length_append]
   · by_cases c2 : 0 < c x y
     · simp (disch := omega) only [gds, ex, ey, hcc, c1, c2, List.length_cons, List.getD_cons_zero, tl_eq, toNat_succ, List.length_nil, List.length_append]
     · simp (disch := omega) only [gds, ex, ey, exy, hcc, hee, c1, c2, List.length_cons, List.getD_cons_zero, tl_eq, toNat_succ, List.length_nil, List.length_append]
end Go.Proofs.YtapfhcnigmighaaGreat.Own
