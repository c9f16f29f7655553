import Derived.Test.YtapfhcnigmighaaGreatMerge
import Derived.Test.YtapfhcnigmighaaGreatUnion
set_option linter.unusedVariables false
set_option linter.unusedSimpArgs false
namespace Go.Proofs.YtapfhcnigmighaaGreat.Own
open Go Go.Proofs.YtapfhcnigmighaaGreat.GD
theorem addO_ok (a b : D) (ha : Og a) (hb : Og b) : Cl ty tab 97 [a, b] = some [.int .i64 (ordO a b)] := by
 have := s_local_add_1 0 a b (r := [.int .i64 (ordO a b)]) ?_
 · rwa [ha.eta, hb.eta] at this
 unfold local_add_1
 have hor := fun n => or_ok n [sgn (a.cell 0).i (b.cell 0).i, firstN [sgn (a.cell 1).i (b.cell 1).i, sgn (a.cell 2).i (b.cell 2).i, sgn (a.cell 3).i (b.cell 3).i, sgn (a.cell 4).i (b.cell 4).i], sgn (a.cell 5).i (b.cell 5).i] (by simp)
 simp only [List.map_cons, List.map_nil] at hor
 simp (disch := omega) only [gds, cmp_u32, prefixes_ok, cmp_int, hor]
 have : ∀ x1 x2 x3 x4 x5 x6 : Int, firstN [x1, firstN [x2, x3, x4, x5], x6] = firstN [x1, x2, x3, x4, x5, x6] := fun x1 x2 x3 x4 x5 x6 => by
  simp only [firstN]
  by_cases h1 : x1 = 0 <;> by_cases h2 : x2 = 0 <;> by_cases h3 : x3 = 0 <;> by_cases h4 : x4 = 0 <;> by_cases h5 : x5 = 0 <;> simp [h1, h2, h3, h4, h5]
 rw [this, ordO_first]
theorem addK_ok (a b : D) (ha : Kg a) (hb : Kg b) : Cl ty tab 99 [a, b] = some [.int .i64 (ordK a b)] := by
 have := s_local_add_3 0 a b (r := [.int .i64 (ordK a b)]) ?_
 · rwa [ha.eta, hb.eta] at this
 unfold local_add_3
 have hc := cmpB_cmpL (rootN a 1) (rootN b 1) (by rw [rootN_len, rootN_len]) ha.rt hb.rt
 have hb1 : Cl ty tab 93 [.sl 5 false (rKsE a 1), .sl 5 false (rKsE b 1)] = some [.int .i64 (cmpL (rootN a 1) (rootN b 1))] := by
  rw [s_bytes_Compare, rootN_eta, rootN_eta, ← hc]; rfl
 have hor := fun n => or_ok n [sgn (a.cell 0).i (b.cell 0).i, cmpL (rootN a 1) (rootN b 1), sgn (a.cell 17).i (b.cell 17).i] (by simp)
 simp only [List.map_cons, List.map_nil] at hor
 simp (disch := omega) only [gds, cmp_u32, cmp_int, hor, hb1]
 rw [← ordK_first]
theorem addP_ok (a b : D) (ha : Pg a) (hb : Pg b) : Cl ty tab 98 [a, b] = some [.int .i64 (ordP a b)] := by
 have := s_local_add_2 0 (custP a) (a.cell 1).nb (a.cell 1).els (custP b) (b.cell 1).nb (b.cell 1).els (r := [.int .i64 (ordP a b)]) ?_
 · unfold custP at this; rwa [ha.eta, hb.eta] at this
 unfold local_add_2 ordP
 simp (disch := omega) only [gds, cmp_u32]
def fst2 (x _ : D) : D := x
theorem firstO_ok (a b : D) (ha : Og a) (hb : Og b) : Cl ty tab 101 [a, b] = some [fst2 a b] := by
 have := s_local_first_101 0 a b rfl
 rwa [ha.eta, hb.eta] at this
theorem firstK_ok (a b : D) (ha : Kg a) (hb : Kg b) : Cl ty tab 105 [a, b] = some [fst2 a b] := by
 have := s_local_first_105 0 a b rfl
 rwa [ha.eta, hb.eta] at this
def unD (x y : D) : D := .agg [.int .u32 (custP x), .sl 51 (unionK (((x.cell 1).els.map D.i) ++ ((y.cell 1).els.map D.i))).isEmpty ((unionL (((x.cell 1).els.map D.i) ++ ((y.cell 1).els.map D.i))).map (D.int .u32))]
theorem mem_insK {x y : Int} : ∀ {K : List Int}, y ∈ insK x K → y = x ∨ y ∈ K
 | [], h => by simp [insK] at h; exact .inl h
 | k :: ks, h => by
  unfold insK at h
  split at h
  · exact .inr h
  · rcases List.mem_cons.1 h with rfl | h
    · exact .inr (List.mem_cons_self ..)
    · rcases mem_insK h with h | h
      · exact .inl h
      · exact .inr (List.mem_cons_of_mem _ h)
theorem mem_keysOf {y : Int} : ∀ {L K : List Int}, y ∈ keysOf K L → y ∈ K ∨ y ∈ L
 | [], K, h => .inl h
 | x :: xs, K, h => by
  rcases mem_keysOf (L := xs) (K := insK x K) h with h | h
  · rcases mem_insK h with rfl | h
    · exact .inr (List.mem_cons_self ..)
    · exact .inl h
  · exact .inr (List.mem_cons_of_mem _ h)
theorem mem_unionL {y : Int} {L : List Int} (h : y ∈ unionL L) : y ∈ L := by
 unfold unionL at h
 have h := List.mem_mergeSort.1 h
 unfold unionK at h
 split at h
 · rcases mem_keysOf (List.mem_of_mem_erase h) with h | h
   · cases h
   · exact h
 · rcases mem_keysOf h with h | h
   · cases h
   · exact h
theorem unionL_len (L : List Int) : (unionL L).length ≤ L.length := by
 unfold unionL
 rw [List.length_mergeSort]
 have := keysOf_len L []
 simp only [List.length_nil] at this
 unfold unionK
 split
 · have := List.length_erase_le (a := (0 : Int)) (l := keysOf [] L); omega
 · omega
theorem unionL_nil {L : List Int} (h : (unionK L).isEmpty = true) : unionL L = [] := by
 unfold unionL
 rw [List.isEmpty_iff.1 h]
 simp
theorem map_i {l : List D} {L : List Int} (h : l = L.map (D.int .u32)) : l.map D.i = L ∧ l = (l.map D.i).map (D.int .u32) := by
 subst h
 have : (L.map (D.int .u32)).map D.i = L := by
  rw [List.map_map]; exact (List.map_congr_left fun x _ => rfl).trans (List.map_id _)
 exact ⟨this, by rw [this]⟩
theorem unD_ok (x y : D) (hx : Pg x) (hy : Pg y) (lx : (x.cell 1).els.length ≤ 1000) (ly : (y.cell 1).els.length ≤ 1000) : Cl ty tab 103 [x, y] = some [unD x y] := by
 obtain ⟨A, eA, _⟩ := hx.els
 obtain ⟨B, eB, _⟩ := hy.els
 have h := union_ok (custP x) (custP y) (x.cell 1).nb (y.cell 1).nb A B (by rw [eA] at lx; simpa using lx) (by rw [eB] at ly; simpa using ly)
 rw [← eA, ← eB] at h
 unfold custP at h
 have ex := hx.eta
 have ey := hy.eta
 rw [ex, ey] at h
 rw [h]
 unfold unD custP
 rw [(map_i eA).1, (map_i eB).1]
theorem unD_pg (x y : D) (hx : Pg x) (hy : Pg y) (lx : (x.cell 1).els.length ≤ 1000) (ly : (y.cell 1).els.length ≤ 1000) : Pg (unD x y) ∧ Nn (unD x y) ∧ custP (unD x y) = custP x := by
 obtain ⟨A, eA, hA⟩ := hx.els
 obtain ⟨B, eB, hB⟩ := hy.els
 have l1 := unionL_len (((x.cell 1).els.map D.i) ++ ((y.cell 1).els.map D.i))
 simp only [List.length_append, List.length_map] at l1
 refine ⟨⟨by simp [unD, Vk.fits, fitsL, fits], ⟨_, rfl, fun z hz => ?_⟩, ?_⟩, ⟨fun h => ?_, ?_⟩, rfl⟩
 · have := mem_unionL hz
   rw [(map_i eA).1, (map_i eB).1] at this
   rcases List.mem_append.1 this with h | h
   · exact hA z h
   · exact hB z h
 · show ((unionL _).map (D.int .u32)).length ≤ _
   rw [List.length_map]; omega
 · have h : (unionK (((x.cell 1).els.map D.i) ++ ((y.cell 1).els.map D.i))).isEmpty = true := h
   show (unionL _).map (D.int .u32) = []
   rw [unionL_nil h]; rfl
 · show ((unionL _).map (D.int .u32)).length ≤ _
   rw [List.length_map]; omega
theorem mrg_all {P : D → Prop} {c : D → D → Int} {e : D → D → D} : ∀ (a b : List D), (∀ x, x ∈ a → P x) → (∀ y, y ∈ b → P y) → (∀ x, x ∈ a → ∀ y, y ∈ b → P (e x y)) → ∀ d, d ∈ mrg c e a b → P d
 | [], b, _, hb, _ => by rw [show mrg c e [] b = b by unfold mrg; rfl]; exact hb
 | x :: a, [], ha, _, _ => by rw [show mrg c e (x :: a) [] = x :: a by unfold mrg; rfl]; exact ha
 | x :: a, y :: b, ha, hb, he => by
  have ha' : ∀ z, z ∈ a → P z := fun z hz => ha z (List.mem_cons_of_mem _ hz)
  have hb' : ∀ z, z ∈ b → P z := fun z hz => hb z (List.mem_cons_of_mem _ hz)
  intro d hd
  rw [mrg_cc] at hd
  split at hd
  · rcases List.mem_cons.1 hd with rfl | hd
    · exact ha _ (List.mem_cons_self ..)
    · exact mrg_all a (y :: b) ha' hb (fun z hz w hw => he z (List.mem_cons_of_mem _ hz) w hw) d hd
  · split at hd
    · rcases List.mem_cons.1 hd with rfl | hd
      · exact hb _ (List.mem_cons_self ..)
      · exact mrg_all (x :: a) b ha hb' (fun z hz w hw => he z hz w (List.mem_cons_of_mem _ hw)) d hd
    · rcases List.mem_cons.1 hd with rfl | hd
      · exact he _ (List.mem_cons_self ..) _ (List.mem_cons_self ..)
      · exact mrg_all a b ha' hb' (fun z hz w hw => he z (List.mem_cons_of_mem _ hz) w (List.mem_cons_of_mem _ hw)) d hd
termination_by a b => a.length + b.length
theorem mrg_len {c : D → D → Int} {e : D → D → D} : ∀ (a b : List D), (mrg c e a b).length ≤ a.length + b.length
 | [], b => by rw [show mrg c e [] b = b by unfold mrg; rfl]; simp
 | x :: a, [] => by rw [show mrg c e (x :: a) [] = x :: a by unfold mrg; rfl]; simp
 | x :: a, y :: b => by
  rw [mrg_cc]
  have h1 := mrg_len (c := c) (e := e) a (y :: b)
  have h2 := mrg_len (c := c) (e := e) (x :: a) b
  have h3 := mrg_len (c := c) (e := e) a b
  simp only [List.length_cons] at h1 h2 ⊢
  split
  · simp only [List.length_cons]; omega
  · split <;> simp only [List.length_cons] <;> omega
termination_by a b => a.length + b.length
end Go.Proofs.YtapfhcnigmighaaGreat.Own
