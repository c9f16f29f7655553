import Derived.Test.YtapfhcnigmighaaGreatApply
import Derived.KernelRfl
set_option linter.unusedVariables false
set_option linter.unusedSimpArgs false
namespace Go.Proofs.YtapfhcnigmighaaGreat.Own
open Go Go.Proofs.YtapfhcnigmighaaGreat.GD
instance (l : List D) (i : Nat) : Decidable (up l i) := decidable_of_iff (∀ j, j < l.length → i ≤ j → at' l (j - 1) < at' l j) ⟨fun h j h1 h2 => h j h2 h1, fun h j h1 h2 => h j h2 h1⟩
instance (x : Int) (l : List D) : Decidable (Good x l) := inferInstanceAs (Decidable (_ ∧ _ ∧ _ ∧ _ ∧ _))
theorem goodP_of {d : D} (h1 : (d.cell 1).els.length ≤ 50) (h2 : Good (custP d) (d.cell 1).els) : goodP d = true := by unfold goodP; rw [chk0 (by omega) h2]; rfl
theorem payC_of {o p q : List D} (h1 : o.length ≤ 1000 ∧ p.length ≤ 300 ∧ q.length ≤ 100 ∧ longP p = false) (h2 : risF goodO ltO o = true) (h3 : risF goodP ltP p = true) (h4 : risF goodK ltK q = true) : payC o p q = 0 := by
 unfold payC
 rw [if_neg (by rintro (h | h | h | h) <;> first | omega | (rw [h1.2.2.2] at h; cases h)), if_pos ⟨h2, h3, h4⟩]
theorem gives_ok (n m t : Bool) (o p q : List D) (x : D) (n' m' t' : Bool) (o' p' q' : List D) (hp : Pay o p q) (hx : Xg x) (hn : n = true → o = []) (hm : m = true → p = []) (ht : t = true → q = []) (hN : NnL p) (hN2 : NnL (x.cell 4).els)
  (h1 : payC o p q = 0) (h2 : xC x = 0) (hp' : Pay o' p' q') (h3 : payC o' p' q' = 0) (eo : mO (o.filter fun d => !goneO x d) (x.cell 3).els = o') (ep : mP (p.filter fun d => !goneP x d) (x.cell 4).els = p') (eq : mK (q.filter fun d => !goneK x d) (x.cell 5).els = q') :
  Cl ty tab 35 [payD n m t o p q, x, payD n' m' t' o' p' q'] = some [.bool true] := by
 obtain ⟨m'', ha⟩ := apply_good n m t o p q x hp hx hn hm ht hN hN2 h1 h2 (by rw [eo, ep, eq]; exact h3)
 rw [eo, ep, eq] at ha
 have ex : D.agg (etaCells ks0 x 0) = x := hx.eta
 have := s_gatepathlaw43_gives 0 n o m p t q x n' o' m' p' t' q' (r := [.bool true]) ?_
 · rwa [ex] at this
 unfold gatepathlaw43_gives
 obtain ⟨r, hr, hr2⟩ := same34_ok false m'' false n' m' t' o' p' q' o' p' q' hp' hp'
 obtain rfl : r = true := hr2.2 ⟨rfl, rfl, rfl⟩
 simp (disch := omega) only [gds, ex, ha, hr]
def exO (as low : Int) (len : Int) : D := .agg [.int .u32 as, .int .u8 4, .int .u64 0, .int .u64 low, .int .i64 len, .int .i64 len]
def exP (c : Int) (L : List Int) : D := .agg [.int .u32 c, .sl 51 false (L.map (D.int .u32))]
def exX (f o p : List D) : D := .agg [.sl 70 f.isEmpty f, .sl 73 true [], .sl 51 true [], .sl 58 o.isEmpty o, .sl 84 p.isEmpty p, .sl 64 true []]
theorem exO_og {a b c : Int} (hb : 0 ≤ b ∧ b < 18446744073709551616) : Og (exO a b c) := ⟨rfl, ⟨(by show (0 : Int) ≤ 0; omega), (by show (0 : Int) < 18446744073709551616; omega)⟩, hb⟩
theorem exP_pg {c : Int} {L : List Int} (hc : 0 ≤ c) (h : ∀ x, x ∈ L → 0 ≤ x ∧ x < 4294967296) (hl : L.length ≤ 9223372036854775807) : Pg (exP c L) ∧ 0 ≤ custP (exP c L) := ⟨⟨rfl, ⟨L, rfl, h⟩, (by show (L.map _).length ≤ _; simpa using hl)⟩, hc⟩
theorem nn_ex (P : List (Int × List Int)) : NnL (P.map fun y => exP y.1 y.2) := fun d hd h => by
 obtain ⟨y, _, rfl⟩ := List.mem_map.1 hd
 cases h
theorem pay_ex (O : List (Int × Int × Int)) (P : List (Int × List Int)) (h : ∀ y, y ∈ O → 0 ≤ y.2.1 ∧ y.2.1 < 18446744073709551616) (h2 : ∀ y, y ∈ P → 0 ≤ y.1 ∧ (∀ x, x ∈ y.2 → 0 ≤ x ∧ x < 4294967296) ∧ y.2.length ≤ 100) (h3 : O.length ≤ 100 ∧ P.length ≤ 100) :
  Pay (O.map fun y => exO y.1 y.2.1 y.2.2) (P.map fun y => exP y.1 y.2) [] :=
 ⟨fun d hd => (by obtain ⟨y, hy, rfl⟩ := List.mem_map.1 hd; exact exO_og (h y hy)), fun d hd => (by obtain ⟨y, hy, rfl⟩ := List.mem_map.1 hd; exact exP_pg (h2 y hy).1 (h2 y hy).2.1 (by have := (h2 y hy).2.2; omega)), fun d hd => (by cases hd), (by simp; omega), (by simp; omega), (by simp)⟩
theorem ris1 {g : D → Bool} {lt : D → D → Bool} {x : D} (h : g x = true) : risF g lt [x] = true := by simp [risF, risG, h]
theorem goodPx {c : Int} {L : List Int} (h : L.length ≤ 50) (h2 : Good c (L.map (D.int .u32))) : goodP (exP c L) = true := goodP_of (by show (L.map _).length ≤ 50; simpa using h) h2
theorem xg_ex (f : List D) (hf : ∀ d, d ∈ f → Fg d) (hl : f.length ≤ 100) (O : List (Int × Int × Int)) (P : List (Int × List Int)) (h : Pay (O.map fun y => exO y.1 y.2.1 y.2.2) (P.map fun y => exP y.1 y.2) []) : Xg (exX f (O.map fun y => exO y.1 y.2.1 y.2.2) (P.map fun y => exP y.1 y.2)) :=
 ⟨rfl, hf, fun d hd => (by cases hd), fun d hd => (by cases hd), (by show f.length ≤ _; omega), (by show 0 ≤ _; omega), (by show 0 ≤ _; omega), h⟩
theorem xC_ex {f o p : List D} (h : f.length ≤ 100) (h2 : risF goodF ltF f = true) (h3 : payC o p [] = 0) : xC (exX f o p) = 0 := by
 show (if 100 < f.length ∨ 100 < ([] : List D).length ∨ 100 < ([] : List D).length then (4 : Int) else if risF goodF ltF f = true ∧ risF goodY ltY [] = true ∧ risF goodC ltC [] = true then payC o p [] else 8) = 0
 rw [if_neg (by simp; omega), if_pos ⟨h2, rfl, rfl⟩, h3]
def exF : D := .agg [.bool true, .bool true, .int .u8 4, .int .u64 0, .int .u64 167772160, .int .i64 8, .int .u32 7]
theorem exF_fg : Fg exF := by constructor <;> first | rfl | (constructor <;> decide) | decide
theorem gives1 : Cl ty tab 35 [payD false true true [exO 7 150994944 8, exO 7 167772160 8, exO 8 167772160 8] [] [], exX [exF] [exO 7 167837696 16] [], payD false true true [exO 7 150994944 8, exO 7 167837696 16, exO 8 167772160 8] [] []] = some [.bool true] := by
 have p0 := pay_ex [(7, 150994944, 8), (7, 167772160, 8), (8, 167772160, 8)] [] (by decide) (fun y h => by cases h) (by decide)
 have p1 := pay_ex [(7, 167837696, 16)] [] (by decide) (fun y h => by cases h) (by decide)
 have p2 := pay_ex [(7, 150994944, 8), (7, 167837696, 16), (8, 167772160, 8)] [] (by decide) (fun y h => by cases h) (by decide)
 have hx := xg_ex [exF] (fun d hd => by obtain rfl := List.mem_singleton.1 hd; exact exF_fg) (by decide) _ _ p1
 have c0 : payC [exO 7 150994944 8, exO 7 167772160 8, exO 8 167772160 8] [] [] = 0 := payC_of (by decide) (by decide) rfl rfl
 have c1 : payC [exO 7 167837696 16] [] [] = 0 := payC_of (by decide) (by decide) rfl rfl
 have c2 : payC [exO 7 150994944 8, exO 7 167837696 16, exO 8 167772160 8] [] [] = 0 := payC_of (by decide) (by decide) rfl rfl
 refine gives_ok false true true _ _ _ _ false true true _ _ _ p0 hx (fun h => by cases h) (fun _ => rfl) (fun _ => rfl) (fun d h => by cases h) (fun d h => by cases h) c0 (xC_ex (by decide) (by decide) c1) p2 c2 ?_ (by simp [mP, mrg]; rfl) (by simp [mK, mrg]; rfl)
 have e : ([exO 7 150994944 8, exO 7 167772160 8, exO 8 167772160 8].filter fun d => !goneO (exX [exF] [exO 7 167837696 16] []) d) = [exO 7 150994944 8, exO 8 167772160 8] := by kernel_rfl
 refine (congrArg (fun z => mO z [exO 7 167837696 16]) e).trans ?_
 show mrg ordO fst2 [exO 7 150994944 8, exO 8 167772160 8] [exO 7 167837696 16] = _
 rw [mrg_cc, if_pos (by decide), mrg_cc, if_neg (by decide), if_pos (by decide)]
 simp [mrg]
theorem gives2 (L L' L'' : List Int) (h : (∀ x, x ∈ L → 0 ≤ x ∧ x < 4294967296) ∧ L.length ≤ 50) (h' : (∀ x, x ∈ L' → 0 ≤ x ∧ x < 4294967296) ∧ L'.length ≤ 50) (h'' : (∀ x, x ∈ L'' → 0 ≤ x ∧ x < 4294967296) ∧ L''.length ≤ 50) (g : Good 5 (L.map (D.int .u32))) (g' : Good 5 (L'.map (D.int .u32))) (g'' : Good 5 (L''.map (D.int .u32)))
  (e : unionL (L ++ L') = L'') (e2 : (unionK (L ++ L')).isEmpty = false) : Cl ty tab 35 [payD true false true [] [exP 5 L] [], exX [] [] [exP 5 L'], payD true false true [] [exP 5 L''] []] = some [.bool true] := by
 have pa : ∀ L : List Int, (∀ x, x ∈ L → 0 ≤ x ∧ x < 4294967296) ∧ L.length ≤ 50 → Pay [] [exP 5 L] [] := fun L h => pay_ex [] [(5, L)] (fun y h => by cases h) (fun y hy => by obtain rfl := List.mem_singleton.1 hy; exact ⟨(by show (0 : Int) ≤ 5; omega), h.1, (by show L.length ≤ 100; have := h.2; omega)⟩) (by simp)
 have cc : ∀ L : List Int, L.length ≤ 50 → Good 5 (L.map (D.int .u32)) → payC [] [exP 5 L] [] = 0 := fun L h g => payC_of ⟨by simp, by simp, by simp, by simp [longP, exP, h]⟩ rfl (ris1 (goodPx h g)) rfl
 have hx := xg_ex [] (fun d hd => by cases hd) (by decide) [] [(5, L')] (pa L' h')
 refine gives_ok true false true _ _ _ _ true false true _ _ _ (pa L h) hx (fun _ => rfl) (fun h => by cases h) (fun _ => rfl) (nn_ex [(5, L)]) (nn_ex [(5, L')]) (cc L h.2 g) (xC_ex (by decide) rfl (cc L' h'.2 g')) (pa L'' h'') (cc L'' h''.2 g'') (by simp [mO, mrg]; rfl) ?_ (by simp [mK, mrg]; rfl)
 show mrg ordP unD [exP 5 L] [exP 5 L'] = [exP 5 L'']
 rw [mrg_cc, show ordP (exP 5 L) (exP 5 L') = 0 from rfl]
 have mi : ∀ L : List Int, (L.map (D.int .u32)).map D.i = L := fun L => by rw [List.map_map]; exact (List.map_congr_left fun x _ => rfl).trans (List.map_id _)
 have eu : unD (exP 5 L) (exP 5 L') = exP 5 L'' := by
  show D.agg [.int .u32 5, .sl 51 (unionK ((L.map (D.int .u32)).map D.i ++ (L'.map (D.int .u32)).map D.i)).isEmpty ((unionL ((L.map (D.int .u32)).map D.i ++ (L'.map (D.int .u32)).map D.i)).map (D.int .u32))] = _
  rw [mi, mi, e, e2]; rfl
 simp [eu, mrg]
theorem srt {L : List Int} (h : L.Pairwise fun a b => a ≤ b) : L.mergeSort (fun x y => decide (x ≤ y)) = L := List.mergeSort_of_pairwise (h.imp fun h => decide_eq_true h)
theorem bind_step {o : Option (List D)} {f : List D → Option (List D)} {r : Option (List D)} {x : List D} (h : o = some x) (h2 : f x = r) : o.bind f = r := by rw [h]; exact h2
theorem alive_is : Cl ty tab 24 [] = some [.bool true] := by
 refine s_gatepathlaw43_alive 0 ?_
 have n1 := fun a b c d e => s_gatepathlaw43_net 0 a b c d e rfl
 have n2 := fun a L => s_gatepathlaw43_at 0 a false L rfl
 have n3 := s_gatepathlaw43_example 0 (r := [exX [exF] [exO 7 167837696 16] []]) (by unfold gatepathlaw43_example; rw [n1, n1]; rfl)
 have g1 := gives1
 have g2 := gives2 [1, 2] [2, 3] [1, 2, 3] (by decide) (by decide) (by decide) (by decide) (by decide) (by decide) (srt (L := [1, 2, 3]) (by decide)) rfl
 have g3 := gives2 [0] [2] [2] (by decide) (by decide) (by decide) (by decide) (by decide) (by decide) (srt (L := [2]) (by decide)) rfl
 unfold gatepathlaw43_alive
 simp only [n1, n2, n3, Option.bind_some]
 exact bind_step g2 (bind_step g3 (bind_step g1 rfl))
end Go.Proofs.YtapfhcnigmighaaGreat.Own
