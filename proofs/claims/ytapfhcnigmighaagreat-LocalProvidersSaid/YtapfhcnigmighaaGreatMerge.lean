import Derived.Test.YtapfhcnigmighaaGreatFilter
set_option linter.unusedVariables false
set_option linter.unusedSimpArgs false
namespace Go.Proofs.YtapfhcnigmighaaGreat.Own
open Go Go.Proofs.YtapfhcnigmighaaGreat.GD
def mrg (c : D → D → Int) (e : D → D → D) : List D → List D → List D
 | [], b => b
 | x :: a, [] => x :: a
 | x :: a, y :: b => if c x y < 0 then x :: mrg c e a (y :: b) else if 0 < c x y then y :: mrg c e (x :: a) b else e x y :: mrg c e a b
termination_by a b => a.length + b.length
theorem tl_eq (x : D) (a : List D) : List.take (a.length + 1 - Int.toNat 1) (List.drop (Int.toNat 1) (x :: a)) = a := by
 rw [show Int.toNat 1 = 1 from rfl]; simp
theorem mrg_cc (c : D → D → Int) (e : D → D → D) (x y : D) (a b : List D) : mrg c e (x :: a) (y :: b) = if c x y < 0 then x :: mrg c e a (y :: b) else if 0 < c x y then y :: mrg c e (x :: a) b else e x y :: mrg c e a b := by
 rw [mrg]
theorem toNat_succ (n : Nat) : ((n : Int) + 1).toNat = n + 1 := by omega
theorem mergeO_ok (c : D → D → Int) (e : D → D → D) (n1 n2 : Bool) (a0 b0 : List D) (hE : ∀ d, d ∈ a0 ∨ d ∈ b0 → D.agg (etaCells ks1 d 0) = d) (hE2 : ∀ x y, x ∈ a0 → y ∈ b0 → D.agg (etaCells ks1 (e x y) 0) = e x y)
  (hc : ∀ x y, x ∈ a0 → y ∈ b0 → Cl ty tab 97 [x, y] = some [.int .i64 (c x y)]) (he : ∀ x y, x ∈ a0 → y ∈ b0 → Cl ty tab 101 [x, y] = some [e x y]) (ha : a0.length ≤ 60000) (hb : b0.length ≤ 60000) :
  Cl ty tab 100 [.agg [.fn 97 [], .nilfn], .sl 58 n1 a0, .sl 58 n2 b0, .fn 101 []] = some [.ov 58 false (mrg c e a0 b0)] := by
 refine s_api_Origin_merge 120001 n1 a0 n2 b0 ?_
 unfold api_Origin_merge
 have := iter_wf (R := List D) (F := api_Origin_merge.b0 (Cl ty tab) 120001) (fun s : List D × List D × List D => [.sl 58 n1 s.1, .sl 58 n2 s.2.1, .ov 58 false s.2.2]) (fun _ => some [.ov 58 false (mrg c e a0 b0)]) (fun s => s.1.length + s.2.1.length)
  (fun s => s.2.2 ++ mrg c e s.1 s.2.1 = mrg c e a0 b0 ∧ (∀ d, d ∈ s.1 → d ∈ a0) ∧ (∀ d, d ∈ s.2.1 → d ∈ b0) ∧ s.1.length + s.2.1.length + s.2.2.length ≤ 120000) (fun s hs ag ih => ?_) 120001 (a0, b0, []) ⟨rfl, fun d h => h, fun d h => h, by simp; omega⟩ (by dsimp only; omega)
 · dsimp only at this
   simp (disch := omega) only [gds, List.replicate, Int.toNat_zero, Int.natCast_add]
   exact this
 · obtain ⟨a, b, o⟩ := s
   obtain ⟨g1, g2, g3, g4⟩ := hs
   dsimp only at g1 g2 g3 g4 ih ⊢
   unfold api_Origin_merge.b0
   cases a with
   | nil =>
    have : mrg c e [] b = b := by unfold mrg; rfl
    rw [this] at g1
    rw [← g1]
    simp (disch := omega) only [gds, List.append_nil, List.isEmpty_nil, List.length_nil]
   | cons x a =>
    cases b with
    | nil =>
     have : mrg c e (x :: a) [] = x :: a := by unfold mrg; rfl
     rw [this] at g1
     rw [← g1]
     simp (disch := omega) only [gds, List.append_nil, List.isEmpty_nil, List.isEmpty_cons, List.length_nil, List.length_cons, List.length_append] at g4 ⊢
    | cons y b =>
     have mx := g2 x (List.mem_cons_self ..)
     have my := g3 y (List.mem_cons_self ..)
     have ex := hE x (.inl mx)
     have ey := hE y (.inr my)
     have exy := hE2 x y mx my
     have hcc := hc x y mx my
     have hee := he x y mx my
     simp only [List.length_cons] at g4
     rw [mrg_cc] at g1
     by_cases c1 : c x y < 0
     · rw [if_pos c1] at g1
       have ih' := ih (a, y :: b, o ++ [x]) ⟨by dsimp only; rw [List.append_assoc]; exact g1, fun d hd => g2 d (List.mem_cons_of_mem _ hd), g3, by simp; omega⟩ (by simp only [List.length_cons]; omega)
       dsimp only at ih'
       rw [← ih']
       clear ih ih' hc he hE hE2 g2 g3
       simp (disch := omega) only [gds, ex, ey, hcc, c1, List.length_cons, List.getD_cons_zero, tl_eq, toNat_succ, List.length_nil, List.length_append]
     · by_cases c2 : 0 < c x y
       · rw [if_neg c1, if_pos c2] at g1
         have ih' := ih (x :: a, b, o ++ [y]) ⟨by dsimp only; rw [List.append_assoc]; exact g1, g2, fun d hd => g3 d (List.mem_cons_of_mem _ hd), by simp; omega⟩ (by simp only [List.length_cons]; omega)
         dsimp only at ih'
         rw [← ih']
         clear ih ih' hc he hE hE2 g2 g3
         simp (disch := omega) only [gds, ex, ey, hcc, c1, c2, List.length_cons, List.getD_cons_zero, tl_eq, toNat_succ, List.length_nil, List.length_append]
       · rw [if_neg c1, if_neg c2] at g1
         have ih' := ih (a, b, o ++ [e x y]) ⟨by dsimp only; rw [List.append_assoc]; exact g1, fun d hd => g2 d (List.mem_cons_of_mem _ hd), fun d hd => g3 d (List.mem_cons_of_mem _ hd), by simp; omega⟩ (by simp only [List.length_cons]; omega)
         dsimp only at ih'
         rw [← ih']
         clear ih ih' hc he hE hE2 g2 g3
         simp (disch := omega) only [gds, ex, ey, exy, hcc, hee, c1, c2, List.length_cons, List.getD_cons_zero, tl_eq, toNat_succ, List.length_nil, List.length_append]
theorem mergeK_ok (c : D → D → Int) (e : D → D → D) (n1 n2 : Bool) (a0 b0 : List D) (hE : ∀ d, d ∈ a0 ∨ d ∈ b0 → D.agg (kKsE d 0) = d) (hE2 : ∀ x y, x ∈ a0 → y ∈ b0 → D.agg (kKsE (e x y) 0) = e x y)
  (hc : ∀ x y, x ∈ a0 → y ∈ b0 → Cl ty tab 99 [x, y] = some [.int .i64 (c x y)]) (he : ∀ x y, x ∈ a0 → y ∈ b0 → Cl ty tab 105 [x, y] = some [e x y]) (ha : a0.length ≤ 60000) (hb : b0.length ≤ 60000) :
  Cl ty tab 104 [.agg [.fn 99 [], .nilfn], .sl 64 n1 a0, .sl 64 n2 b0, .fn 105 []] = some [.ov 64 false (mrg c e a0 b0)] := by
 refine s_api_RouterKey_merge 120001 n1 a0 n2 b0 ?_
 unfold api_RouterKey_merge
 have := iter_wf (R := List D) (F := api_RouterKey_merge.b0 (Cl ty tab) 120001) (fun s : List D × List D × List D => [.sl 64 n1 s.1, .sl 64 n2 s.2.1, .ov 64 false s.2.2]) (fun _ => some [.ov 64 false (mrg c e a0 b0)]) (fun s => s.1.length + s.2.1.length)
  (fun s => s.2.2 ++ mrg c e s.1 s.2.1 = mrg c e a0 b0 ∧ (∀ d, d ∈ s.1 → d ∈ a0) ∧ (∀ d, d ∈ s.2.1 → d ∈ b0) ∧ s.1.length + s.2.1.length + s.2.2.length ≤ 120000) (fun s hs ag ih => ?_) 120001 (a0, b0, []) ⟨rfl, fun d h => h, fun d h => h, by simp; omega⟩ (by dsimp only; omega)
 · dsimp only at this
   simp (disch := omega) only [gds, List.replicate, Int.toNat_zero, Int.natCast_add]
   exact this
 · obtain ⟨a, b, o⟩ := s
   obtain ⟨g1, g2, g3, g4⟩ := hs
   dsimp only at g1 g2 g3 g4 ih ⊢
   unfold api_RouterKey_merge.b0
   cases a with
   | nil =>
    have : mrg c e [] b = b := by unfold mrg; rfl
    rw [this] at g1
    rw [← g1]
    simp (disch := omega) only [gds, List.append_nil, List.isEmpty_nil, List.length_nil]
   | cons x a =>
    cases b with
    | nil =>
     have : mrg c e (x :: a) [] = x :: a := by unfold mrg; rfl
     rw [this] at g1
     rw [← g1]
     simp (disch := omega) only [gds, List.append_nil, List.isEmpty_nil, List.isEmpty_cons, List.length_nil, List.length_cons, List.length_append] at g4 ⊢
    | cons y b =>
     have mx := g2 x (List.mem_cons_self ..)
     have my := g3 y (List.mem_cons_self ..)
     have ex := hE x (.inl mx)
     have ey := hE y (.inr my)
     have exy := hE2 x y mx my
     have hcc := hc x y mx my
     have hee := he x y mx my
     simp only [List.length_cons] at g4
     rw [mrg_cc] at g1
     by_cases c1 : c x y < 0
     · rw [if_pos c1] at g1
       have ih' := ih (a, y :: b, o ++ [x]) ⟨by dsimp only; rw [List.append_assoc]; exact g1, fun d hd => g2 d (List.mem_cons_of_mem _ hd), g3, by simp; omega⟩ (by simp only [List.length_cons]; omega)
       dsimp only at ih'
       rw [← ih']
       clear ih ih' hc he hE hE2 g2 g3
       simp (disch := omega) only [gds, ex, ey, hcc, c1, List.length_cons, List.getD_cons_zero, tl_eq, toNat_succ, List.length_nil, List.length_append]
     · by_cases c2 : 0 < c x y
       · rw [if_neg c1, if_pos c2] at g1
         have ih' := ih (x :: a, b, o ++ [y]) ⟨by dsimp only; rw [List.append_assoc]; exact g1, g2, fun d hd => g3 d (List.mem_cons_of_mem _ hd), by simp; omega⟩ (by simp only [List.length_cons]; omega)
         dsimp only at ih'
         rw [← ih']
         clear ih ih' hc he hE hE2 g2 g3
         simp (disch := omega) only [gds, ex, ey, hcc, c1, c2, List.length_cons, List.getD_cons_zero, tl_eq, toNat_succ, List.length_nil, List.length_append]
       · rw [if_neg c1, if_neg c2] at g1
         have ih' := ih (a, b, o ++ [e x y]) ⟨by dsimp only; rw [List.append_assoc]; exact g1, fun d hd => g2 d (List.mem_cons_of_mem _ hd), fun d hd => g3 d (List.mem_cons_of_mem _ hd), by simp; omega⟩ (by simp only [List.length_cons]; omega)
         dsimp only at ih'
         rw [← ih']
         clear ih ih' hc he hE hE2 g2 g3
         simp (disch := omega) only [gds, ex, ey, exy, hcc, hee, c1, c2, List.length_cons, List.getD_cons_zero, tl_eq, toNat_succ, List.length_nil, List.length_append]
theorem mergeP_ok (c : D → D → Int) (e : D → D → D) (n1 n2 : Bool) (a0 b0 : List D) (hE : ∀ d, d ∈ a0 ∨ d ∈ b0 → D.agg [(D.int .u32 ((d.cell 0).i)), (D.sl 51 (d.cell 1).nb (d.cell 1).els)] = d) (hE2 : ∀ x y, x ∈ a0 → y ∈ b0 → D.agg [(D.int .u32 (((e x y).cell 0).i)), (D.sl 51 ((e x y).cell 1).nb ((e x y).cell 1).els)] = e x y)
  (hc : ∀ x y, x ∈ a0 → y ∈ b0 → Cl ty tab 98 [x, y] = some [.int .i64 (c x y)]) (he : ∀ x y, x ∈ a0 → y ∈ b0 → Cl ty tab 103 [x, y] = some [e x y]) (ha : a0.length ≤ 60000) (hb : b0.length ≤ 60000) :
  Cl ty tab 102 [.agg [.fn 98 [], .nilfn], .sl 84 n1 a0, .sl 84 n2 b0, .fn 103 []] = some [.ov 84 false (mrg c e a0 b0)] := by
 refine s_api_Attest_merge 120001 n1 a0 n2 b0 ?_
 unfold api_Attest_merge
 have := iter_wf (R := List D) (F := api_Attest_merge.b0 (Cl ty tab) 120001) (fun s : List D × List D × List D => [.sl 84 n1 s.1, .sl 84 n2 s.2.1, .ov 84 false s.2.2]) (fun _ => some [.ov 84 false (mrg c e a0 b0)]) (fun s => s.1.length + s.2.1.length)
  (fun s => s.2.2 ++ mrg c e s.1 s.2.1 = mrg c e a0 b0 ∧ (∀ d, d ∈ s.1 → d ∈ a0) ∧ (∀ d, d ∈ s.2.1 → d ∈ b0) ∧ s.1.length + s.2.1.length + s.2.2.length ≤ 120000) (fun s hs ag ih => ?_) 120001 (a0, b0, []) ⟨rfl, fun d h => h, fun d h => h, by simp; omega⟩ (by dsimp only; omega)
 · dsimp only at this
   simp (disch := omega) only [gds, List.replicate, Int.toNat_zero, Int.natCast_add]
   exact this
 · obtain ⟨a, b, o⟩ := s
   obtain ⟨g1, g2, g3, g4⟩ := hs
   dsimp only at g1 g2 g3 g4 ih ⊢
   unfold api_Attest_merge.b0
   cases a with
   | nil =>
    have : mrg c e [] b = b := by unfold mrg; rfl
    rw [this] at g1
    rw [← g1]
    simp (disch := omega) only [gds, List.append_nil, List.isEmpty_nil, List.length_nil]
   | cons x a =>
    cases b with
    | nil =>
     have : mrg c e (x :: a) [] = x :: a := by unfold mrg; rfl
     rw [this] at g1
     rw [← g1]
     simp (disch := omega) only [gds, List.append_nil, List.isEmpty_nil, List.isEmpty_cons, List.length_nil, List.length_cons, List.length_append] at g4 ⊢
    | cons y b =>
     have mx := g2 x (List.mem_cons_self ..)
     have my := g3 y (List.mem_cons_self ..)
     have ex := hE x (.inl mx)
     have ey := hE y (.inr my)
     have exy := hE2 x y mx my
     have hcc := hc x y mx my
     have hee := he x y mx my
     simp only [List.length_cons] at g4
     rw [mrg_cc] at g1
     by_cases c1 : c x y < 0
     · rw [if_pos c1] at g1
       have ih' := ih (a, y :: b, o ++ [x]) ⟨by dsimp only; rw [List.append_assoc]; exact g1, fun d hd => g2 d (List.mem_cons_of_mem _ hd), g3, by simp; omega⟩ (by simp only [List.length_cons]; omega)
       dsimp only at ih'
       rw [← ih']
       clear ih ih' hc he hE hE2 g2 g3
       simp (disch := omega) only [gds, ex, ey, hcc, c1, List.length_cons, List.getD_cons_zero, tl_eq, toNat_succ, List.length_nil, List.length_append]
     · by_cases c2 : 0 < c x y
       · rw [if_neg c1, if_pos c2] at g1
         have ih' := ih (x :: a, b, o ++ [y]) ⟨by dsimp only; rw [List.append_assoc]; exact g1, g2, fun d hd => g3 d (List.mem_cons_of_mem _ hd), by simp; omega⟩ (by simp only [List.length_cons]; omega)
         dsimp only at ih'
         rw [← ih']
         clear ih ih' hc he hE hE2 g2 g3
         simp (disch := omega) only [gds, ex, ey, hcc, c1, c2, List.length_cons, List.getD_cons_zero, tl_eq, toNat_succ, List.length_nil, List.length_append]
       · rw [if_neg c1, if_neg c2] at g1
         have ih' := ih (a, b, o ++ [e x y]) ⟨by dsimp only; rw [List.append_assoc]; exact g1, fun d hd => g2 d (List.mem_cons_of_mem _ hd), fun d hd => g3 d (List.mem_cons_of_mem _ hd), by simp; omega⟩ (by simp only [List.length_cons]; omega)
         dsimp only at ih'
         rw [← ih']
         clear ih ih' hc he hE hE2 g2 g3
         simp (disch := omega) only [gds, ex, ey, exy, hcc, hee, c1, c2, List.length_cons, List.getD_cons_zero, tl_eq, toNat_succ, List.length_nil, List.length_append]
end Go.Proofs.YtapfhcnigmighaaGreat.Own
