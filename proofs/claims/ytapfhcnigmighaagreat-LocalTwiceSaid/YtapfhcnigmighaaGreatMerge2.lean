import Derived.Test.YtapfhcnigmighaaGreatMerge
import Derived.Test.YtapfhcnigmighaaGreatLocal
set_option linter.unusedVariables false
set_option linter.unusedSimpArgs false
namespace Go.Proofs.YtapfhcnigmighaaGreat.Own
open Go Go.Proofs.YtapfhcnigmighaaGreat.GD
theorem mergeF_ok (c : D → D → Int) (e : D → D → D) (n1 n2 : Bool) (a0 b0 : List D) (hE : ∀ d, d ∈ a0 ∨ d ∈ b0 → D.agg (etaCells ks3 d 0) = d) (hE2 : ∀ x y, x ∈ a0 → y ∈ b0 → D.agg (etaCells ks3 (e x y) 0) = e x y)
  (hc : ∀ x y, x ∈ a0 → y ∈ b0 → Cl ty tab 86 [x, y] = some [.int .i64 (c x y)]) (he : ∀ x y, x ∈ a0 → y ∈ b0 → Cl ty tab 38 [x, y] = some [e x y]) (ha : a0.length ≤ 60000) (hb : b0.length ≤ 60000) :
  Cl ty tab 37 [.agg [.fn 86 [], .fn 91 []], .sl 70 n1 a0, .sl 70 n2 b0, .fn 38 []] = some [.ov 70 false (mrg c e a0 b0)] := by
 refine s_api_LocalPrefix_merge 120001 n1 a0 n2 b0 ?_
 unfold api_LocalPrefix_merge
 have := merge_loop (F := api_LocalPrefix_merge.b0 (Cl ty tab) 120001) c e 70 n1 n2 a0 b0 ha hb (fun b o ag hl => ?_) (fun x a o ag hl => ?_) (fun x a y b o ag mx my hl => ?_)
 · simp (disch := omega) only [gds, List.replicate, Int.toNat_zero, Int.natCast_add]
   exact this
 · unfold api_LocalPrefix_merge.b0
   simp (disch := omega) only [gds, List.append_nil, List.isEmpty_nil, List.length_nil]
 · unfold api_LocalPrefix_merge.b0
   simp (disch := omega) only [gds, List.append_nil, List.isEmpty_nil, List.isEmpty_cons, List.length_nil, List.length_cons, List.length_append]
 · unfold api_LocalPrefix_merge.b0
   have ex := hE x (.inl mx)
   have ey := hE y (.inr my)
   have exy := hE2 x y mx my
   have hcc := hc x y mx my
   have hee := he x y mx my
   clear hc he hE hE2
   by_cases c1 : c x y < 0
   · simp (disch := omega) only [gds, ex, ey, hcc, c1, List.length_cons, List.getD_cons_zero, tl_eq, toNat_succ, List.length_nil, List.length_append]
   · by_cases c2 : 0 < c x y
     · simp (disch := omega) only [gds, ex, ey, hcc, c1, c2, List.length_cons, List.getD_cons_zero, tl_eq, toNat_succ, List.length_nil, List.length_append]
     · simp (disch := omega) only [gds, ex, ey, exy, hcc, hee, c1, c2, List.length_cons, List.getD_cons_zero, tl_eq, toNat_succ, List.length_nil, List.length_append]
theorem mergeY_ok (c : D → D → Int) (e : D → D → D) (n1 n2 : Bool) (a0 b0 : List D) (hE : ∀ d, d ∈ a0 ∨ d ∈ b0 → D.agg (yKsE d 0) = d) (hE2 : ∀ x y, x ∈ a0 → y ∈ b0 → D.agg (yKsE (e x y) 0) = e x y)
  (hc : ∀ x y, x ∈ a0 → y ∈ b0 → Cl ty tab 92 [x, y] = some [.int .i64 (c x y)]) (he : ∀ x y, x ∈ a0 → y ∈ b0 → Cl ty tab 41 [x, y] = some [e x y]) (ha : a0.length ≤ 60000) (hb : b0.length ≤ 60000) :
  Cl ty tab 40 [.agg [.fn 92 [], .fn 95 []], .sl 73 n1 a0, .sl 73 n2 b0, .fn 41 []] = some [.ov 73 false (mrg c e a0 b0)] := by
 refine s_api_LocalKey_merge 120001 n1 a0 n2 b0 ?_
 unfold api_LocalKey_merge
 have := merge_loop (F := api_LocalKey_merge.b0 (Cl ty tab) 120001) c e 73 n1 n2 a0 b0 ha hb (fun b o ag hl => ?_) (fun x a o ag hl => ?_) (fun x a y b o ag mx my hl => ?_)
 · simp (disch := omega) only [gds, List.replicate, Int.toNat_zero, Int.natCast_add]
   exact this
 · unfold api_LocalKey_merge.b0
   simp (disch := omega) only [gds, List.append_nil, List.isEmpty_nil, List.length_nil]
 · unfold api_LocalKey_merge.b0
   simp (disch := omega) only [gds, List.append_nil, List.isEmpty_nil, List.isEmpty_cons, List.length_nil, List.length_cons, List.length_append]
 · unfold api_LocalKey_merge.b0
   have ex := hE x (.inl mx)
   have ey := hE y (.inr my)
   have exy := hE2 x y mx my
   have hcc := hc x y mx my
   have hee := he x y mx my
   clear hc he hE hE2
   by_cases c1 : c x y < 0
   · simp (disch := omega) only [gds, ex, ey, hcc, c1, List.length_cons, List.getD_cons_zero, tl_eq, toNat_succ, List.length_nil, List.length_append]
   · by_cases c2 : 0 < c x y
     · simp (disch := omega) only [gds, ex, ey, hcc, c1, c2, List.length_cons, List.getD_cons_zero, tl_eq, toNat_succ, List.length_nil, List.length_append]
     · simp (disch := omega) only [gds, ex, ey, exy, hcc, hee, c1, c2, List.length_cons, List.getD_cons_zero, tl_eq, toNat_succ, List.length_nil, List.length_append]
theorem mergeC_ok (c : D → D → Int) (e : D → D → D) (n1 n2 : Bool) (a0 b0 : List D) (hE : ∀ d, d ∈ a0 ∨ d ∈ b0 → D.int .u32 (d.cell 0).i = d) (hE2 : ∀ x y, x ∈ a0 → y ∈ b0 → D.int .u32 ((e x y).cell 0).i = e x y)
  (hc : ∀ x y, x ∈ a0 → y ∈ b0 → Cl ty tab 90 [x, y] = some [.int .i64 (c x y)]) (he : ∀ x y, x ∈ a0 → y ∈ b0 → Cl ty tab 44 [x, y] = some [e x y]) (ha : a0.length ≤ 60000) (hb : b0.length ≤ 60000) :
  Cl ty tab 43 [.agg [.fn 90 [], .fn 96 []], .sl 51 n1 a0, .sl 51 n2 b0, .fn 44 []] = some [.ov 51 false (mrg c e a0 b0)] := by
 refine s_local_order_uint32_merge 120001 n1 a0 n2 b0 ?_
 unfold local_order_uint32_merge
 have := merge_loop (F := local_order_uint32_merge.b0 (Cl ty tab) 120001) c e 51 n1 n2 a0 b0 ha hb (fun b o ag hl => ?_) (fun x a o ag hl => ?_) (fun x a y b o ag mx my hl => ?_)
 · simp (disch := omega) only [gds, List.replicate, Int.toNat_zero, Int.natCast_add]
   exact this
 · unfold local_order_uint32_merge.b0
   simp (disch := omega) only [gds, List.append_nil, List.isEmpty_nil, List.length_nil]
 · unfold local_order_uint32_merge.b0
   simp (disch := omega) only [gds, List.append_nil, List.isEmpty_nil, List.isEmpty_cons, List.length_nil, List.length_cons, List.length_append]
 · unfold local_order_uint32_merge.b0
   have ex := hE x (.inl mx)
   have ey := hE y (.inr my)
   have exy := hE2 x y mx my
   have hcc := hc x y mx my
   have hee := he x y mx my
   clear hc he hE hE2
   by_cases c1 : c x y < 0
   · simp (disch := omega) only [gds, ex, ey, hcc, c1, List.length_cons, List.getD_cons_zero, tl_eq, toNat_succ, List.length_nil, List.length_append]
   · by_cases c2 : 0 < c x y
     · simp (disch := omega) only [gds, ex, ey, hcc, c1, c2, List.length_cons, List.getD_cons_zero, tl_eq, toNat_succ, List.length_nil, List.length_append]
     · simp (disch := omega) only [gds, ex, ey, exy, hcc, hee, c1, c2, List.length_cons, List.getD_cons_zero, tl_eq, toNat_succ, List.length_nil, List.length_append]
end Go.Proofs.YtapfhcnigmighaaGreat.Own
