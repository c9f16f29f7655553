/- The sort of the library, and the keys of a map. -/
import Derived.Test.YtapfhcnigmighaaGreatProg
import Derived.Test.YtapfhcnigmighaaGreatKeysP
import Derived.Shelf.AbstractIn
import Derived.RangeFuncSeq
import Derived.RangeFuncGives
import Derived.RangeFuncBound
import Derived.RangeFuncBox
import Derived.RangeFuncFrom
import Derived.RangeFuncLeaves
import Derived.Shelf.Abstract
import Derived.RegionIn
import Derived.LoopNIn
import Derived.LoopIn
import Derived.TacticsInMore
import Derived.Maps.AppendAt
import Derived.KernelRfl
set_option linter.unusedVariables false
set_option linter.unusedSimpArgs false
namespace Go.Proofs.YtapfhcnigmighaaGreat.Own
open Go Go.Proofs.YtapfhcnigmighaaGreat.GD Go.Proofs Go.RowKit Go.Maps Go.Shelf
attribute [local go_sem] Oper.semAt_some
def keyN (e : MapEntry) : Int := match e.key with | .int _ n => n | _ => 0
set_option maxRecDepth 100000 in
set_option maxHeartbeats 1000000 in
theorem keys1 (F : Fence) (n : Nat) (hF : F.fn 156) (hro : F.round = none) (hn : 1 ≤ n) (l Bm b : Nat) (es : Array MapEntry) (clock : Nat) (ho : BornOk es clock) (hk : ∀ e, e ∈ es.toList → e.key = .int .u32 (keyN e)) (J Jx : List Int → World → Prop)
  (hY : ∀ pre x W, J pre W → pre.length < es.size → YieldAt F (n - 1) Tryz.prog l #[.int .u32 x] W fun e W' => (e = .returned (.bool true) ∧ J (pre ++ [x]) W' ∧ KeepsWalks W W') ∨ (e = .returned (.bool false) ∧ Jx (pre ++ [x]) W'))
  (W : World) (hJ : AbidesFrom W.heap.size J) (hm : W.cell? ⟨Bm, 0, none⟩ = some (.map (some b))) (hb : W.heap[b]? = some (.map es clock)) (h0 : J [] W) :
  CallsIn F n Tryz.prog 156 #[.func (.yield l) #[] #[], .pointer (some ⟨Bm, 0, none⟩)] W fun e W' => (∃ v, e = .returned v) ∧ ((∃ ss : List Int, ss.Perm (es.toList.map keyN) ∧ J ss W') ∨ (∃ pre : List Int, True ∧ Jx pre W')) := by
 have mixed : Tryz.prog.follows .mixedOrders = true := by kernel_rfl
 refine callsIn_of_wp Tryz.func156 rfl hF ?_ hro
 simp only [Tryz.ntmps156, List.size_toArray, List.length_cons, List.length_nil, Nat.reduceAdd, Nat.reduceSub, Array.replicate_succ, Array.replicate_zero, List.push_toArray, List.append_toArray, List.nil_append, List.cons_append]
 gi_wp2_with (first
  | (gi_at_range; refine wp_range_raw rfl _ 188 51 4 rfl Tryz.underlying188 b es clock rfl hb ?_; intro w0 hrg0 hg0 hs0)
  | gi_in)
 go_frame
 gi_loopw [3] (fun _ wr => ∃ xs : List MapEntry, Rg wr b W.heap.size es clock xs ∧ J (xs.map keyN) wr)
  (fun _ wr => wr.rangeLeft b W.heap.size)
 case atStart =>
  exact ⟨[], hrg0, hJ [] W w0 none h0 hg0 (fun r e => by cases e)⟩
 case round =>
  obtain ⟨xs, hrg, hJs⟩ := hrel
  gi_wp2_with (first
   | (gi_at_next; refine wp_next_raw rfl _ rfl rfl hrg ho ?_ ?_)
   | gi_in)
  · intro hp
    gi_wp2
    go_end0
    exact ⟨⟨_, rfl⟩, .inl ⟨xs.map keyN, hp.map _, hJs⟩⟩
  · intro e w2 he hrg2 hg2 hs2 hen
    have hlen : xs.length < es.size := by have := hrg2.len; simp at this; omega
    have hJ2 : J (xs.map keyN) w2 := hJ _ wr w2 (some W.heap.size) hJs hg2 (fun r e => by cases e; obtain ⟨c0, h1, _⟩ := hrg.hr; exact ⟨Nat.le_refl _, _, h1, rfl⟩)
    obtain ⟨fn, tmps, assign, body, hy, hR⟩ := hY (xs.map keyN) (keyN e) w2 hJ2 (by simpa using hlen)
    have hke := hk e (by simpa using he)
    rw [hke] at hen ⊢
    clear hs2
    gi_wp2
    refine hR.mono ?_
    rintro e' W3 (⟨rfl, hJ3, hk3⟩ | ⟨rfl, hx3⟩)
    rotate_left
    · gi_wp2
      refine bodyPost_ret (results_none rfl _ _ _) rfl ?_
      exact ⟨⟨_, rfl⟩, .inr ⟨_, trivial, hx3⟩⟩
    gi_wp2
    have hrg3 := hrg2.walks hk3
    go_roundw
    case rel => exact ⟨xs ++ [e], hrg3, by simpa using hJ3⟩
    case measure =>
     have m1 : wr.rangeLeft b W.heap.size = (leftOf es (xs.map (·.born)).toArray).size := by
      obtain ⟨c0, h1, _⟩ := hrg.hr
      simp [World.rangeLeft, hrg.hb, h1]
     have m2 : W3.rangeLeft b W.heap.size = (leftOf es ((xs ++ [e]).map (·.born)).toArray).size := by
      obtain ⟨c0, h1, _⟩ := hrg3.hr
      simp [World.rangeLeft, hrg3.hb, h1]
     rw [m1, m2]
     have hnd : e.born ∉ xs.map (·.born) := by
      have := hrg2.nd
      rw [List.map_append, List.nodup_append] at this
      exact fun h => this.2.2 _ h _ (by simp) rfl
     have := left_shrinks es (xs.map (·.born)).toArray e (by
      unfold leftOf
      simp only [Array.toList_filter, List.mem_filter, List.contains_toArray, List.contains_eq_mem]
      exact ⟨by simpa using he, by simpa using hnd⟩)
     simpa using this
theorem keys_seq (F : Fence) (n : Nat) (hF : F.fn 156) (hro : F.round = none) (hn : 1 ≤ n) (Bm b : Nat) (es : Array MapEntry) (clock : Nat) (ho : BornOk es clock) (hk : ∀ e, e ∈ es.toList → e.key = .int .u32 (keyN e)) (w : World) (hBm : Bm < w.heap.size)
  (hm : w.cell? ⟨Bm, 0, none⟩ = some (.map (some b))) (hb : w.heap[b]? = some (.map es clock)) :
  SeqStopsK F n Tryz.prog 156 #[.pointer (some ⟨Bm, 0, none⟩)] (fun x : Int => #[Value.int .u32 x]) KeepsWalks (fun ss => ss.Perm (es.toList.map keyN)) (fun _ => True) es.size w := fun l J Jx W hW hJ _ hY h0 =>
 keys1 F n hF hro hn l Bm b es clock ho hk J Jx hY W hJ ((hW.cell (p := ⟨Bm, 0, none⟩) hBm).trans hm) ((hW.block b (Array.getElem?_eq_some_iff.1 hb).1).trans hb) h0
theorem infoK : (Tryz.prog.info? 51).map (fun i => (i.zero, i.size, i.bytes)) = some (some (.int .u32 0), 1, 4) := by kernel_rfl
set_option maxRecDepth 100000 in
set_option maxHeartbeats 2000000 in
theorem appendSeq (F : Fence) (n : Nat) (hF : F.fn 160) (hro : F.round = none) (hn : 2 ≤ n) (gf : Nat) (lb : Array Value) (hFg : F.fn gf) (eg : ∀ args w, (callFunc gf args).run Tryz.prog w = .ok (.enter gf args) w)
  (S : List Int → Prop) (N : Nat) (hN : N ≤ maxLen) (hNb : N * 4 ≤ 140737488355328) (w : World) (hseq : SeqStopsK F (n - 1) Tryz.prog gf lb (fun x : Int => #[Value.int .u32 x]) KeepsWalks S (fun _ => True) N w) :
  CallsIn F n Tryz.prog 160 #[.slice none 0 0, .func (.func gf) #[] lb] w fun e w' => ∃ (v : Value) (ss : List Int), e = .returned v ∧ S ss ∧ w'.ownsRow w.heap.size 51 1 v ss.length (ss.map (Value.int .u32)) ∧ (v = .slice none 0 0 ↔ ss = []) ∧ Below w.heap.size w w' := by
 have mixed : Tryz.prog.follows .mixedOrders = true := by kernel_rfl
 have h1 : 1 ≤ n := by omega
 obtain ⟨i0, hi, hz0, hz1, hz2⟩ := info_parts infoK
 refine callsIn_of_wp_marks Tryz.func160 rfl hF ?_ hro
 simp only [Tryz.ntmps160, List.size_toArray, List.length_cons, List.length_nil, Nat.reduceAdd, Nat.reduceSub, Array.replicate_succ, Array.replicate_zero, List.push_toArray, List.append_toArray, List.nil_append, List.cons_append]
 gi_wp2
 have bO := Boxed.new w 26 (.slice none 0 0)
 have hB0 : Below w.heap.size w (w.alloc (.cells #[.slice none 0 0] 26)) := (Below.refl _ w).alloc (Nat.le_refl _) _
 refine wpIn_rangeFunc_ownF hro h1 (gf := gf) (lb := lb) rfl hFg eg hseq walksK_t walksK_b hB0 (fun _ => rfl)
  (fun pre W => (∃ v, Boxed W w.heap.size 26 v ∧ W.ownsRow w.heap.size 51 1 v pre.length (pre.map (Value.int .u32)) ∧ (v = .slice none 0 0 ↔ pre = [])) ∧ (Below w.heap.size w W ∧ pre.length ≤ N))
  (fun _ _ _ => False)
  (OwnFrom.and (Own.from (holdsRow_own w.heap.size w.heap.size 26 51 1 (fun pre => pre.length) (fun pre : List Int => pre.map (Value.int .u32)) (fun pre v => v = .slice none 0 0 ↔ pre = [])) _) (OwnFrom.and (ownFrom_below (Nat.le_refl _) (by simp)) (fun _ _ _ _ hs _ _ => hs)))
  (fun _ _ _ _ _ hs _ _ => hs)
  ⟨⟨_, bO, World.ownsRow_nil _ _ _ _, by simp⟩, hB0, Nat.zero_le _⟩
  (fun x => { tmps := #[.slice none 0 0, .func (.func gf) #[] lb, .pointer (some ⟨w.heap.size, 0, none⟩), undef, .slice none 0 0, .int .u32 x, .func (.func gf) #[] lb, .int .u32 x, undef, undef, undef, undef, undef], defers := [] }) ?assign ?body ?done ?stop
 case assign =>
  intro l x W K hK
  gi_wp2
  exact hK
 case body =>
  rintro l pre x W ⟨⟨v, hv, hrow, hnil⟩, hB, hpl⟩ hlt
  have hc := hv.cell
  gi_wp2_with (gi_at_builtin; refine wpListIn_append_own _ rfl _ _ 26 rfl w.heap.size 51 i0 (.int .u32 0) 1 4 Tryz.underlying26 hi hz0 hz1 hz2 rfl (by decide) _ _ _ rfl (hrow.alloc _) ⟨W.heap.size, 0, none⟩ 1 1 [.int .u32 x] rfl rfl (cell_one_new _ _ _) (by simp [Value.oneCell']) (by omega) (by omega) (by have := hB.size; simp; omega) ?_; intro v' w1 hown' hgrow _; obtain ⟨g', cap', rfl⟩ := ownsRow_succ hown'; obtain ⟨hv1, hv2, hr2, hk2, hb2⟩ := hv.appended (by decide) hrow hB.size (Nat.le_refl _) hown' hgrow; have hc1 := hv1.cell; have hf1 := hv1.frozen)
  exact ⟨hk2, hk2.walks, ⟨_, hv2, by simpa using hr2, by simp⟩, hB.trans hb2, by simp; omega⟩
 case done =>
  rintro D ys W hD hS ⟨⟨v, hv, hrow, hnil⟩, hB, _⟩ hK
  have hc := hv.cell
  gi_wp2
  refine ⟨by simp, .inl ⟨_, _, rfl, run_takeDeferred hK, ?_⟩⟩
  exact ⟨_, results_tmp rfl _ _ _, v, ys, rfl, hS, ownsRow_putObj hrow _ hK rfl, hnil, hB.trans (belowK_b (w := w) (Nat.le_refl _) W D _ _ (by simp at hD; omega) hK rfl rfl)⟩
 case stop =>
  rintro D c pre W _ _ h _
  exact h.elim
set_option maxRecDepth 100000 in
set_option maxHeartbeats 1000000 in
theorem collect (F : Fence) (n : Nat) (hC : F.fn 154) (hF : F.fn 160) (hro : F.round = none) (hn : 3 ≤ n) (gf : Nat) (lb : Array Value) (hFg : F.fn gf) (eg : ∀ args w, (callFunc gf args).run Tryz.prog w = .ok (.enter gf args) w)
  (S : List Int → Prop) (N : Nat) (hN : N ≤ maxLen) (hNb : N * 4 ≤ 140737488355328) (w : World) (hseq : SeqStopsK F (n - 1 - 1) Tryz.prog gf lb (fun x : Int => #[Value.int .u32 x]) KeepsWalks S (fun _ => True) N w) :
  CallsIn F n Tryz.prog 154 #[.func (.func gf) #[] lb] w fun e w' => ∃ (v : Value) (ss : List Int), e = .returned v ∧ S ss ∧ w'.ownsRow w.heap.size 51 1 v ss.length (ss.map (Value.int .u32)) ∧ (v = .slice none 0 0 ↔ ss = []) ∧ Below w.heap.size w w' := by
 have mixed : Tryz.prog.follows .mixedOrders = true := by kernel_rfl
 have h1 : 1 ≤ n := by omega
 have e11 : ∀ args w, (callFunc 160 args).run Tryz.prog w = .ok (.enter 160 args) w := enters_of Tryz.func160 (by kernel_rfl) rfl
 refine callsIn_of_wp Tryz.func154 rfl hC ?_ hro
 simp only [Tryz.ntmps154, List.size_toArray, List.length_cons, List.length_nil, Nat.reduceAdd, Nat.reduceSub, Array.replicate_succ, Array.replicate_zero, List.push_toArray, List.append_toArray, List.nil_append, List.cons_append]
 gi_wp2_with (gi_at_call 160; refine (appendSeq F (n - 1) hF hro (by omega) gf lb hFg eg S N hN hNb _ hseq).mono ?_; rintro e w' ⟨v, ss, rfl, hS, hrow, hnil, hb⟩)
 go_ret
 exact ⟨v, ss, rfl, hS, hrow, hnil, hb⟩
set_option maxHeartbeats 1000000 in
theorem keysF (F : Fence) (n : Nat) (hF : F.fn 141) (hro : F.round = none) (mb : Option Nat) (w : World) :
  CallsIn F n Tryz.prog 141 #[.map mb] w fun e w' => e = .returned (.func (.func 156) #[] #[.pointer (some ⟨w.heap.size, 0, none⟩)]) ∧ w' = w.alloc (.cells #[.map mb] 188) := by
 have mixed : Tryz.prog.follows .mixedOrders = true := by kernel_rfl
 refine callsIn_of_wp Tryz.func141 rfl hF ?_ hro
 simp only [Tryz.ntmps141, List.size_toArray, List.length_cons, List.length_nil, Nat.reduceAdd, Nat.reduceSub, Array.replicate_succ, Array.replicate_zero, List.push_toArray, List.append_toArray, List.nil_append, List.cons_append]
 gi_wp2
 go_ret
 exact ⟨rfl, rfl⟩
end Go.Proofs.YtapfhcnigmighaaGreat.Own
