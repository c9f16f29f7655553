/- The sort of the library, and the keys of a map. -/
import Derived.Test.YtapfhcnigmighaaGreatIter
import Derived.Test.YtapfhcnigmighaaGreatSoPdq5
set_option linter.unusedVariables false
set_option linter.unusedSimpArgs false
namespace Go.Proofs.YtapfhcnigmighaaGreat.Own
open Go Go.Proofs.YtapfhcnigmighaaGreat.GD Go.Proofs Go.RowKit Go.Maps Go.Shelf
theorem sortTab : TabOk Tryz.prog So.ty So.tab := tabOk_spec (tyL := So.tyL) (tabL := So.tabL) (by kernel_rfl) (by kernel_rfl) (by kernel_rfl) trivial
def U32Row (w : World) (blk : Option Nat) (v : Value) (nb : Bool) (ss : List Int) : Prop :=
 (blk = none ∧ ss = [] ∧ nb = true ∧ v = .slice none 0 0) ∨
 (nb = false ∧ ∃ g cap cur t, blk = some g ∧ v = .slice (some ⟨g, 0, none⟩) ss.length cap ∧ w.heap[g]? = some (.cells cur t (0, 0)) ∧ ss.length ≤ cap ∧ cap ≤ maxLen ∧ cur.size = cap * 1 ∧ cur.toList.take (ss.length * 1) = ss.map (Value.int .u32))
theorem u32_getD (ss : List Int) {i : Nat} (h : i < ss.length) : (ss.map (D.int .u32)).getD i .undef = D.int .u32 (ss.getD i 0) ∧ (ss.map (Value.int .u32)).getD i undef = Value.int .u32 (ss.getD i 0) := by
 simp [zq1, h]
theorem U32Row.row {ty : TypeId → Option Vk} {w : World} {ok : Nat → Prop} {blk : Option Nat} {v : Value} {nb : Bool} {ss : List Int} (h : U32Row w blk v nb ss) : RowR ty w ok ⟨false, [.int .u32]⟩ v blk (ss.map (D.int .u32)) nb := by
 refine ⟨ss.map (Value.int .u32), ⟨by simp, ?_⟩, fun d hd => ?_, fun i j hi hj => ?_⟩
 · rcases h with ⟨rfl, rfl, rfl, rfl⟩ | ⟨rfl, g, cap, cur, t, rfl, rfl, h1, h2, h3, h4, h5⟩
   · exact .inl ⟨rfl, rfl, none, rfl, rfl, fun x hx => by cases hx⟩
   · exact .inr ⟨rfl, g, cap, cur, t, rfl, by simp, h1, by simpa using h2, h3, by simpa using h4, by simpa using h5.symm⟩
 · obtain ⟨x, _, rfl⟩ := List.mem_map.1 hd
   rfl
 · simp only [List.length_map] at hi
   simp only [List.length_cons, List.length_nil] at hj
   obtain rfl : j = 0 := by omega
   obtain ⟨e1, e2⟩ := u32_getD ss hi
   simp only [List.length_cons, List.length_nil, Nat.zero_add, Nat.mul_one, Nat.add_zero]
   rw [e1, e2]
   exact .int _ _
theorem U32Row.of {ty : TypeId → Option Vk} {w : World} {ok : Nat → Prop} {k : Vk} {blk : Option Nat} {v : Value} {nb : Bool} {ss : List Int} (hk : k = ⟨false, [.int .u32]⟩) (hv : ∃ a c, v = .slice a ss.length c ∧ (a = none → v = .slice none 0 0)) (hn : nb = true → v = .slice none 0 0)
  (h : RowR ty w ok k v blk (ss.map (D.int .u32)) nb) (hb : blk = none → nb = true) : U32Row w blk v nb ss := by
 subst hk
 obtain ⟨xs, ⟨hl, h1⟩, h2, h3⟩ := h
 have hxs : xs = ss.map (Value.int .u32) := by
  apply List.ext_getElem
  · simpa using hl
  · intro i p1 p2
    have hi : i < ss.length := by simpa using p2
    have := h3 i 0 (by simpa using hi) (by simp)
    simp only [List.length_cons, List.length_nil, Nat.zero_add, Nat.mul_one, Nat.add_zero] at this
    rw [(u32_getD ss hi).1] at this
    have e : xs.getD i undef = xs[i] := by simp [zq1, p1]
    rw [e] at this
    simp only [D.cell] at this
    generalize xs[i] = u at this
    cases this
    simp [zq1, hi]
 rcases h1 with ⟨rfl, hn0, a, rfl, rfl, _⟩ | ⟨rfl, g, cap, cur, t, rfl, rfl, p1, p2, p3, p4, p5⟩
 · have := hb rfl
   refine .inl ⟨rfl, List.length_eq_zero_iff.1 (by simpa using hn0), this, hn this⟩
 · exact .inr ⟨rfl, g, cap, cur, t, rfl, by simp, p1, by simpa using p2, p3, by simpa using p4, by simpa [hxs] using p5.symm⟩
theorem sort_row (w : World) (v : Value) (blk : Option Nat) (nb : Bool) (ss : List Int) (hl : ss.length < 65536) (h : U32Row w blk v nb ss) (hlt : ∀ g, blk = some g → g < w.heap.size) :
  Calls Tryz.prog 155 #[v] w fun e w' => e = .returned (.tuple #[]) ∧ U32Row w' blk v nb (ss.mergeSort fun x y => decide (x ≤ y)) ∧ w'.tape = w.tape ∧ w'.os = w.os ∧ w'.output = w.output ∧ w.heap.size ≤ w'.heap.size ∧ ∀ b, b < w.heap.size → blk ≠ some b → w'.heap[b]? = w.heap[b]? := by
 obtain ⟨k, hk⟩ := Cl_eq.1 (So.sort_ok nb ss hl)
 have hty : So.ty 51 = some ⟨false, [.int .u32]⟩ := by kernel_rfl
 have hs := dcall_sound sortTab k So.t_slices_Sort
 have hsig : (Entry.code So.c_slices_Sort).sig = ⟨[.m 51], []⟩ := by kernel_rfl
 rw [hsig] at hs
 have hpre : Pre So.ty [.m 51] [.ov 51 nb (ss.map (D.int .u32))] w #[v] (fun i => if i = 0 then blk else none) (fun _ => False) := {
  sz := rfl
  len := rfl
  args := fun i a hi => by
   cases i with
   | zero => simp at hi; subst hi; exact ⟨nb, _, _, rfl, hty, h.row⟩
   | succ i => simp at hi
  inj := fun i j b hi hj => by
   by_cases h1 : i = 0 <;> by_cases h2 : j = 0 <;> simp [h1, h2] at hi hj ⊢
  blk := fun i b hi => by
   split at hi
   · rename_i h0; exact ⟨by simp [h0], hlt b hi, fun h => h⟩
   · cases hi
  xlt := fun b h => h.elim }
 refine (hs _ _ hk w #[v] _ _ hpre).mono fun e w' he => ?_
 cases e with
 | returned u =>
  obtain ⟨rv, rb, hu, hp⟩ := he
  have hrv : rv = [] := List.length_eq_zero_iff.1 hp.len
  subst hrv
  have hb := hp.back
  simp only [List.length_nil, List.drop_zero, BackR, lentA] at hb
  obtain ⟨⟨nb', els', k', e1, e2, e3⟩, _⟩ := hb
  cases e1
  have hk' : k' = ⟨false, [.int .u32]⟩ := by rw [hty] at e2; exact (Option.some.inj e2).symm
  refine ⟨by rw [hu]; rfl, U32Row.of hk' ?_ ?_ (by simpa using e3) ?_, hp.tape, hp.os, hp.out, hp.size, fun b hb hne => hp.frame b hb fun j hj => ?_⟩
  · rcases h with ⟨_, rfl, _, rfl⟩ | ⟨_, g, cap, cur, t, _, rfl, _⟩
    · exact ⟨none, 0, by simp, fun _ => rfl⟩
    · exact ⟨some ⟨g, 0, none⟩, cap, by simp, fun h => by cases h⟩
  · rcases h with ⟨_, rfl, rfl, rfl⟩ | ⟨rfl, _⟩
    · exact fun _ => rfl
    · exact fun h => by cases h
  · rcases h with ⟨_, rfl, rfl, rfl⟩ | ⟨rfl, g, cap, cur, t, rfl, _⟩
    · exact fun _ => rfl
    · exact fun h => by cases h
  · split at hj
    · exact hne hj
    · cases hj
 | _ => exact he.elim
theorem mergeSort_perm_eq {l l' : List Int} (h : l.Perm l') : (l.mergeSort fun x y => decide (x ≤ y)) = l'.mergeSort fun x y => decide (x ≤ y) := by
 have tr : ∀ a b c : Int, decide (a ≤ b) = true → decide (b ≤ c) = true → decide (a ≤ c) = true := fun a b c h1 h2 => by simp only [decide_eq_true_eq] at *; omega
 have to : ∀ a b : Int, (decide (a ≤ b) || decide (b ≤ a)) = true := fun a b => by simp only [Bool.or_eq_true, decide_eq_true_eq]; omega
 refine List.Perm.eq_of_pairwise (le := fun a b => decide (a ≤ b) = true) (fun a b _ _ h1 h2 => ?_) (List.pairwise_mergeSort tr to l) (List.pairwise_mergeSort tr to l') (((List.mergeSort_perm l _).trans h).trans (List.mergeSort_perm l' _).symm)
 simp only [decide_eq_true_eq] at h1 h2
 omega
set_option maxRecDepth 100000 in
set_option maxHeartbeats 1000000 in
theorem sorted_walk (Bm b : Nat) (es : Array MapEntry) (clock : Nat) (ho : BornOk es clock) (hk : ∀ e, e ∈ es.toList → e.key = .int .u32 (keyN e)) (hlen : es.size < 65536) (w : World) (hBm : Bm < w.heap.size) (hm : w.cell? ⟨Bm, 0, none⟩ = some (.map (some b))) (hb : w.heap[b]? = some (.map es clock)) :
  Calls Tryz.prog 140 #[.func (.func 156) #[] #[.pointer (some ⟨Bm, 0, none⟩)]] w fun e w' => ∃ v blk nb, e = .returned v ∧ U32Row w' blk v nb ((es.toList.map keyN).mergeSort fun x y => decide (x ≤ y)) ∧ nb = decide (es.size = 0) ∧
   w'.tape = w.tape ∧ w'.os = w.os ∧ w'.output = w.output ∧ w.heap.size ≤ w'.heap.size ∧ (∀ j, j < w.heap.size → w'.heap[j]? = w.heap[j]?) ∧ ∀ g, blk = some g → w.heap.size ≤ g ∧ g < w'.heap.size := by
 refine (callsIn_wide (n := 4)).1 ?_
 have mixed : Tryz.prog.follows .mixedOrders = true := by kernel_rfl
 have hseq := keys_seq Fence.wide 1 trivial rfl (by omega) Bm b es clock ho hk w hBm hm hb
 have cC := collect Fence.wide 3 trivial trivial rfl (by omega) 156 #[.pointer (some ⟨Bm, 0, none⟩)] trivial (enters_of Tryz.func156 (by kernel_rfl) rfl) _ es.size (by unfold maxLen; omega) (by omega) w hseq
 have cS : ∀ (W : World) (v : Value) (blk : Option Nat) (nb : Bool) (ss : List Int), ss.length < 65536 → U32Row W blk v nb ss → (∀ g, blk = some g → g < W.heap.size) →
   CallsIn Fence.wide 3 Tryz.prog 155 #[v] W fun e w' => e = .returned (.tuple #[]) ∧ U32Row w' blk v nb (ss.mergeSort fun x y => decide (x ≤ y)) ∧ w'.tape = W.tape ∧ w'.os = W.os ∧ w'.output = W.output ∧ W.heap.size ≤ w'.heap.size ∧ ∀ b, b < W.heap.size → blk ≠ some b → w'.heap[b]? = W.heap[b]? :=
  fun W v blk nb ss h1 h2 h3 => callsIn_wide.2 (sort_row W v blk nb ss h1 h2 h3)
 have e9 : ∀ args w, (callFunc 155 args).run Tryz.prog w = .ok (.enter 155 args) w := enters_of Tryz.func155 (by kernel_rfl) rfl
 have e8 : ∀ args w, (callFunc 154 args).run Tryz.prog w = .ok (.enter 154 args) w := enters_of Tryz.func154 (by kernel_rfl) rfl
 have hfC : Fence.wide.fn 154 := trivial
 have hfS : Fence.wide.fn 155 := trivial
 refine callsIn_of_wp Tryz.func140 rfl trivial ?_ rfl
 simp only [Tryz.ntmps140, List.size_toArray, List.length_cons, List.length_nil, Nat.reduceAdd, Nat.reduceSub, Array.replicate_succ, Array.replicate_zero, List.push_toArray, List.append_toArray, List.nil_append, List.cons_append]
 gi_wp2_with (gi_at_call 154; refine cC.mono ?_; rintro e W ⟨v, ss, rfl, hS, hrow, hnil, hbl⟩)
 have hsl : ss.length < 65536 := by have := hS.length_eq; simp at this; omega
 have hms := mergeSort_perm_eq hS
 have hle : ss.length = es.size := by have := hS.length_eq; simpa using this
 rcases hrow.2 with ⟨rfl, hz⟩ | ⟨g, cap, cur, rfl, hbase, hgb, r1, r2, r3, r4⟩
 · have hss : ss = [] := List.eq_nil_of_length_eq_zero hz
   subst hss
   have hz2 : es.size = 0 := by simpa using hle.symm
   clear hnil hle
   gi_wp2_with (gi_at_call 155; refine (cS W (.slice none 0 0) none true [] (by simp) (.inl ⟨rfl, rfl, rfl, rfl⟩) (fun g h => by cases h)).mono ?_; rintro e w' ⟨rfl, hr, ht, hos, hout, hsz, hfr⟩)
   go_ret
   refine ⟨_, none, true, rfl, by rw [← hms]; exact hr, by simp [hz2], by rw [ht, hbl.tape], by rw [hos, hbl.os], by rw [hout, hbl.output], by have := hbl.size; omega, fun j hj => ?_, fun g h => by cases h⟩
   have := hbl.size
   rw [hfr j (by omega) (by simp), hbl.block j hj]
 · have hgl : g < W.heap.size := (Array.getElem?_eq_some_iff.1 hgb).1
   have hne : ¬ es.size = 0 := fun h => by have := hnil.2 (List.length_eq_zero_iff.1 (by omega)); cases this
   clear hnil hle
   gi_wp2_with (gi_at_call 155; refine (cS W (.slice (some ⟨g, 0, none⟩) ss.length cap) (some g) false ss hsl (.inr ⟨rfl, g, cap, cur, _, rfl, rfl, hgb, r1, r2, r3, r4⟩) (fun g' h => by cases h; exact hgl)).mono ?_; rintro e w' ⟨rfl, hr, ht, hos, hout, hsz, hfr⟩)
   go_ret
   refine ⟨_, some g, false, rfl, by rw [← hms]; exact hr, by simp [hne], by rw [ht, hbl.tape], by rw [hos, hbl.os], by rw [hout, hbl.output], by have := hbl.size; omega, fun j hj => ?_, fun g' h => by cases h; exact ⟨hbase, by omega⟩⟩
   have := hbl.size
   rw [hfr j (by omega) (by intro h; cases h; omega), hbl.block j hj]
theorem notLent (j : Nat) (a : Am) (hj : [Am.p][j]? = some a) (hl : lentA a = true) : False := by
 cases j with
 | zero => simp at hj; subst hj; cases hl
 | succ j => simp at hj
theorem keys_sound {ty : TypeId → Option Vk} : SoundAt Tryz.prog ty 141 ⟨[.p], [.p ⟨false, [.fnc 156]⟩]⟩ (keysSpec 156) := by
 intro l rs hf w vs blks X hp
 unfold keysSpec at hf
 split at hf
 case h_2 => cases hf
 rename_i ks vl
 cases hf
 have hsz := hp.sz
 obtain ⟨v1, rfl⟩ : ∃ v1, vs = #[v1] := by
  rcases vs with ⟨vs⟩
  match vs, hsz with
  | [a], _ => exact ⟨a, rfl⟩
 obtain ⟨_, hb0, hr⟩ := hp.args 0 .p rfl
 have hr : RepV ty w (fun b => b < w.heap.size ∧ ¬ X b ∧ ∀ j, blks j ≠ some b) v1 (.mpl ks vl) := hr
 cases hr with
 | mpl b es clock _ _ hok hh hs hv hbo hk hvv =>
  refine (callsIn_wide.1 (keysF Fence.wide 1 trivial rfl (some b) w)).mono ?_
  rintro e w' ⟨rfl, rfl⟩
  have hS : Same (fun b => b < w.heap.size ∧ ¬ X b ∧ ∀ j, blks j ≠ some b) w (w.alloc (.cells #[.map (some b)] 188)) := fun b hb => Below.heap_alloc _ _ b hb.1
  have hokk : ∀ c, (c < w.heap.size ∧ ¬ X c ∧ ∀ j, blks j ≠ some c) → okR [.p] blks X (w.alloc (.cells #[.map (some b)] 188)) (fun _ => none) c := fun c hb => ⟨by simp; omega, hb.2.1, (fun j h => nomatch h), fun j a hj hl => (notLent j a hj hl).elim⟩
  refine post_plain hp rfl rfl ?_ rfl rfl rfl (by simp) (fun b hb _ => Below.heap_alloc _ _ b hb)
  refine .fn 156 #[.pointer (some ⟨w.heap.size, 0, none⟩)] [.rp [.mpl ks vl] 0] rfl fun j hj => ?_
  simp only [List.length_cons, List.length_nil] at hj
  obtain rfl : j = 0 := by omega
  refine .rp w.heap.size [.mpl ks vl] 0 (fun _ => .map (some b)) (fun d hd => by simp at hd; subst hd; rfl) ⟨by simp, (fun h => by have := hp.xlt _ h; omega), (fun j h => nomatch h), fun j a hj hl => (notLent j a hj hl).elim⟩ (fun j hj => ?_) (fun j hj => ?_)
  · simp only [List.length_cons, List.length_nil] at hj
    obtain rfl : j = 0 := by omega
    exact (Boxed.new w 188 (.map (some b))).cell
  · simp only [List.length_cons, List.length_nil] at hj
    obtain rfl : j = 0 := by omega
    exact (RepV.mpl b es clock ks vl hok hh hs hv hbo hk hvv).mono (fun b hb => hokk b hb) hS
theorem sorted_sound {ty : TypeId → Option Vk} (hk : ty 51 = some ⟨false, [.int .u32]⟩) : SoundAt Tryz.prog ty 140 ⟨[.p], [.o 51]⟩ (sortedSpec 156 51) := by
 intro l rs hf w vs blks X hp
 unfold sortedSpec at hf
 split at hf
 case h_2 => cases hf
 rename_i c ks vl
 split at hf
 case isFalse => cases hf
 rename_i hc
 obtain ⟨rfl, hall, hlen⟩ := hc
 cases hf
 have hsz := hp.sz
 obtain ⟨v1, rfl⟩ : ∃ v1, vs = #[v1] := by
  rcases vs with ⟨vs⟩
  match vs, hsz with
  | [a], _ => exact ⟨a, rfl⟩
 obtain ⟨_, hb0, hr⟩ := hp.args 0 .p rfl
 have hr : RepV ty w (fun b => b < w.heap.size ∧ ¬ X b ∧ ∀ j, blks j ≠ some b) v1 (.fn 156 [.rp [.mpl ks vl] 0]) := hr
 cases hr with
 | fn _ caps _ hcs hrep =>
  obtain ⟨u, rfl⟩ : ∃ u, caps = #[u] := by
   rcases caps with ⟨cl⟩
   match cl, hcs with
   | [a], _ => exact ⟨a, rfl⟩
  have h1 : RepV ty w (fun b => b < w.heap.size ∧ ¬ X b ∧ ∀ j, blks j ≠ some b) u (.rp [.mpl ks vl] 0) := hrep 0 (by simp)
  cases h1 with
  | rp Bm _ _ vals _ hokB hcell hrv =>
   have h2 : RepV ty w (fun b => b < w.heap.size ∧ ¬ X b ∧ ∀ j, blks j ≠ some b) (vals 0) (.mpl ks vl) := hrv 0 (by simp)
   have hcl := hcell 0 (by simp)
   generalize vals 0 = u0 at h2 hcl
   cases h2 with
   | mpl b es clock _ _ hok hh hs hv hbo hkr hvv =>
    have hkey : ∀ i (h : i < es.size), es[i].key = .int .u32 (ks.getD i .undef).i ∧ keyN es[i] = (ks.getD i .undef).i := fun i h => by
     have h3 := hkr i h
     have h4 := List.all_eq_true.1 hall _ (mem_getD (show i < ks.length by omega))
     generalize ks.getD i .undef = q at h3 h4 ⊢
     obtain ⟨n, rfl⟩ : ∃ n, q = .int .u32 n := by
      unfold isU32 at h4
      split at h4
      · exact ⟨_, rfl⟩
      · cases h4
     generalize hkk : es[i].key = kk at h3
     cases h3
     exact ⟨rfl, by simp [keyN, hkk, D.i]⟩
    have hk' : ∀ e, e ∈ es.toList → e.key = .int .u32 (keyN e) := fun e he => by
     obtain ⟨i, hi, rfl⟩ := List.getElem_of_mem he
     have hi' : i < es.size := by simpa using hi
     obtain ⟨e1, e2⟩ := hkey i hi'
     simp only [Array.getElem_toList]
     rw [e1, e2]
    have hmap : es.toList.map keyN = ks.map D.i := by
     apply List.ext_getElem
     · simpa using hs
     · intro i p1 p2
       have hi' : i < es.size := by simpa using p1
       have hi2 : i < ks.length := by omega
       simp only [List.getElem_map, Array.getElem_toList]
       rw [(hkey i hi').2]
       simp [zq1, hi2]
    refine (sorted_walk Bm b es clock hbo hk' (by omega) w hokB.1 hcl hh).mono fun e w' he => ?_
    obtain ⟨v, blk, nb, rfl, hrow, hnb, ht, hos, hout, hsz2, hfr, hblk⟩ := he
    rw [hmap] at hrow
    have hnb' : nb = ks.isEmpty := by
     rw [hnb, hs]
     cases ks <;> simp
    subst hnb'
    refine ⟨[v], fun i => if i = 0 then blk else none, rfl, ?_⟩
    exact {
     len := rfl
     rlen := Nat.le_refl _
     res := fun i m hi => by
      cases i with
      | zero => simp at hi; subst hi; exact ⟨_, _, _, rfl, hk, hrow.row⟩
      | succ i => simp at hi
     back := rfl
     rblk := fun i b' hb => by
      split at hb
      · rename_i h0
        obtain ⟨q1, q2⟩ := hblk b' hb
        exact ⟨by simp [h0], q2, fun hx => by have := hp.xlt _ hx; omega, .inl q1⟩
      · cases hb
     rinj := fun i j b' hi hj => by
      split at hi
      · split at hj
        · omega
        · cases hj
      · cases hi
     tape := ht
     os := hos
     out := hout
     size := hsz2
     frame := fun b' hb _ => hfr b' hb }
theorem keys_ok_141 {ty : TypeId → Option Vk} (_ : (0 : Nat) = 0) : SoundAt Tryz.prog ty 141 ⟨[.p], [.p ⟨false, [.fnc 156]⟩]⟩ (keysSpec 156) ∧ BodyOk Tryz.prog ty 141 ⟨[.p], [.p ⟨false, [.fnc 156]⟩]⟩ :=
 ⟨keys_sound, _, Tryz.func141, by kernel_rfl, by kernel_rfl, fun i e hi => by
  rcases i with _ | i <;> simp at hi⟩
theorem sorted_ok_140 {ty : TypeId → Option Vk} (hk : ty 51 = some ⟨false, [.int .u32]⟩) : SoundAt Tryz.prog ty 140 ⟨[.p], [.o 51]⟩ (sortedSpec 156 51) ∧ BodyOk Tryz.prog ty 140 ⟨[.p], [.o 51]⟩ :=
 ⟨sorted_sound hk, _, Tryz.func140, by kernel_rfl, by kernel_rfl, fun i e hi => by
  rcases i with _ | i <;> simp at hi⟩
end Go.Proofs.YtapfhcnigmighaaGreat.Own
