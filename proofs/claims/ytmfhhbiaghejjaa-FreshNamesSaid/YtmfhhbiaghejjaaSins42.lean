/- A function of the library, told by hand: its contract. -/
import Derived.Test.YtmfhhbiaghejjaaProg
import Derived.Test.YtmfhhbiaghejjaaG4
import Derived.Shelf.RegionOpenPlain
import Derived.WalkKit
import Derived.Lib.Walk
import Derived.Lib.SliceRun
import Derived.Lib.JoinLaws
import Derived.Lib.AppendZerosOnto
import Derived.Lib.Overlaps
import Derived.Laws.Externs
import Derived.Laws.CopyRow
import Derived.Laws.IdiomCopy
import Derived.Laws.NewBlocks
import Derived.KernelRfl
namespace Go.Proofs.Ytmfhhbiaghejjaa.Own.Sins42
open Go Go.Proofs.Ytmfhhbiaghejjaa.GD Go.Proofs Go.Shelf Go.RowKit Go.Lib
set_option linter.unusedVariables false
set_option linter.unusedSimpArgs false

theorem alloc_at {w : World} {o : Go.Obj} : (w.alloc o).heap[w.heap.size]? = some o := by show (w.heap.push o)[w.heap.size]? = some o; simp
theorem alloc_lt {w : World} {o : Go.Obj} {b : Nat} (h : b < w.heap.size) : (w.alloc o).heap[b]? = w.heap[b]? := by show (w.heap.push o)[b]? = w.heap[b]?; simp [Array.getElem?_push, show ¬ b = w.heap.size by omega]

/-- a copy into a row, from whatever source -/
theorem run_copy_src {P : Program} (w : World) (dT sT ty elem : TypeId) (g o dLen dCap : Nat) (x : Value) (m : Nat) (cs : List Value) (cur : Array Value) (t : TypeId) (i : TypeInfo)
    (hu : P.underlying dT = some (.slice elem)) (hi : P.info? elem = some i) (hg : w.heap[g]? = some (.cells cur t (0, 0)))
    (hlen : (Builtin.lenOf x).run P w = .ok m w) (hfirst : (Builtin.firstCells i.size (Nat.min m dLen) x).run P w = .ok cs.toArray w) (h1 : ∀ u, u ∈ cs → u.oneCell' = true)
    (hfit : o + cs.length ≤ cur.size) :
    (Builtin.copy_ #[dT, sT] ty #[.slice (some ⟨g, o, none⟩) dLen dCap, x]).run P w =
      .ok (goInt (Nat.min m dLen)) (w.setRow g (cur.toList.take o ++ cs ++ cur.toList.drop (o + cs.length)).toArray) := by
  have hst := run_storeCells_at P g o t cs 0 cur w hg (by simpa using hfit) h1
  simp only [Nat.add_zero] at hst
  simp [Builtin.copy_, run_underlying hu, hlen, sizeOf, typeInfo, hi, hfirst, hst]

/-- the step of a walk, where a copy's run is known -/
theorem wp_copy_run {P : Program} (w : World) {o : Oper} {a : Act} {K : Act → World → Prop} {Q : Exit → Act → World → Prop} (d s : Operand) (t t' : TypeId)
    (ho : o.op = .call { callee := .builtin .copy, args := #[d, s], argTypes := #[t, t'] }) (v u : Value) (hd : a.eval d = v) (hs : a.eval s = u) {v' : Value} {w' : World}
    (hr : (Builtin.copy_ #[t, t'] o.type #[v, u]).run P w = .ok v' w') (h : K (a.put o.dst v') w') : o.wp P a w K Q := by
  unfold Oper.wp execOp
  simp only [ho, resolve, invoke, builtin, Sem.run_bind, Sem.run_pure, Result.andThen_ok, List.map_toArray, List.map_cons, List.map_nil, hd, hs, hr]
  exact h

theorem wpList_copy_run {P : Program} (w : World) {ops : Array Oper} {rest : List Oper} {o : Oper} {a : Act} {Q : Exit → Act → World → Prop} (hgd : o.guard = none) (d s : Operand) (t t' : TypeId)
    (ho : o.op = .call { callee := .builtin .copy, args := #[d, s], argTypes := #[t, t'] }) (v u : Value) (hd : a.eval d = v) (hs : a.eval s = u) {v' : Value} {w' : World}
    (hr : (Builtin.copy_ #[t, t'] o.type #[v, u]).run P w = .ok v' w') (h : wpList P ops Q rest (a.put o.dst v') w') : wpList P ops Q (o :: rest) a w :=
  wpList_plain hgd fun _ hK => wp_copy_run w d s t t' ho v u hd hs hr (hK _ _ h)

theorem step_copy_run {P : Program} {ops : Array Oper} {o : Oper} {a : Act} {w : World} {K : Act → World → Prop} {Q : Exit → Act → World → Prop} {E : Prop}
    (hg : o.guard = none) (d x : Operand) (dT sT : TypeId) (hop : o.op = Op.call { callee := Callee.builtin Builtin.copy, args := #[d, x], argTypes := #[dT, sT] })
    (v u : Value) (hd : a.eval d = v) (hx : a.eval x = u) {v' : Value} {w' : World} (hr : (Builtin.copy_ #[dT, sT] o.type #[v, u]).run P w = .ok v' w') (hK : K (a.put o.dst v') w') :
    if Region.wanted o (yielded ops a.tmps) = true then Oper.wp P o a w K Q else E := by
  have hw : Region.wanted o (yielded ops a.tmps) = true := by simp [Region.wanted, hg]
  rw [if_pos hw]
  unfold Oper.wp
  simp [execOp, hop, resolve, invoke, builtin, hd, hx, hr, Result.andThen]
  exact hK

set_option maxHeartbeats 4000000 in
set_option maxRecDepth 100000 in
/-- there is room, i < len(s): in place -/
theorem ins_shift (i0 : TypeInfo) (hi0 : Try.prog.info? 47 = some i0) (hsz : i0.size = 37) (b n c i m vb voff vc : Nat) (ms news : List Value) (cur cur1 : Array Value) (t : TypeId) (w : World) (hi : i < n) (hm : 0 < m) (hroom : n + m ≤ c) (hc63 : c ≤ 9223372036854775807) (hvb : vb ≠ b)
    (hg : w.heap[b]? = some (.cells cur t (0, 0))) (hcs : cur.size = c * 37)
    (hms : ms.length = (n - i) * 37) (hmc : ∀ j u, ms[j]? = some u → cur[i * 37 + j]? = some u) (hm1 : ∀ u, u ∈ ms → u.oneCell' = true)
    (hnl : news.length = m * 37) (hnc : ∀ j u, news[j]? = some u → w.cell? ⟨vb, voff + j, none⟩ = some u) (hn1 : ∀ u, u ∈ news → u.oneCell' = true)
    (hc1 : cur1 = (cur.toList.take ((i + m) * 37) ++ ms ++ cur.toList.drop ((i + m) * 37 + ms.length)).toArray)
    (tA : TypeId) (kA : Nat) (hsa : w.shape? vb = some (tA, kA)) (hfa : w.frozen? ⟨vb, voff, none⟩ = false) (hfe : w.frozen? ⟨vb, kA, none⟩ = false) :
    Calls Try.prog 42 #[.slice (some ⟨b, 0, none⟩) n c, .int .i64 i, .slice (some ⟨vb, voff, none⟩) m vc] w fun e w' =>
      e = .returned (.slice (some ⟨b, 0, none⟩) (n + m) c) ∧
      w' = ((w.drew).setRow b cur1).setRow b (cur1.toList.take (i * 37) ++ news ++ cur1.toList.drop (i * 37 + news.length)).toArray := by
  have mixed : Try.prog.follows .mixedOrders = true := by kernel_rfl
  have hz1 : ¬ ((m : Int) = 0) := by omega
  have hz2 : ¬ ((i : Int) = (n : Int)) := by omega
  have hbs : w.shape? b = some (t, cur.size) := by simp [World.shape?, hg]
  have hov : ∀ lb cb, (callFunc 48 #[.slice (some ⟨vb, voff, none⟩) m vc, .slice (some ⟨b, (i + m) * 37, none⟩) lb cb]).run Try.prog w = .ok (.value (.bool false)) w := fun lb cb => by
    rw [run_callFunc_extern Try.func48 (by kernel_rfl) (by kernel_rfl) (by kernel_rfl) (e := Extern.SlicesOverlaps.overlaps #[22, 22] #[4]) (by kernel_rfl),
      Lib.run_overlaps_apart w 22 4 47 Try.underlying22 37 Try.sizeOf47 ⟨vb, voff, none⟩ ⟨b, (i + m) * 37, none⟩ m vc lb cb hvb tA t kA cur.size hsa hbs (by omega) hfa hfe]
    rfl
  have hw1 : IntKind.i64.wrap ((i : Int) + (m : Int)) = (i : Int) + (m : Int) := by rw [IntKind.wrap_i64]; omega
  have hb1 : (0 : Int) ≤ (i : Int) + (m : Int) := by omega
  have hin : i ≤ n := by omega
  have htn : ((i : Int) + (m : Int)).toNat = i + m := by omega
  have hb2 : ¬ (c = i + m) := by omega
  have hb3 : (i : Int) ≤ (n : Int) + (m : Int) := by omega
  have hb4 : ¬ (c = i) := by omega
  have hsz1 : cur1.size = cur.size := by
    rw [hc1]
    simp
    omega
  have hgd : (w.drew).heap[b]? = some (.cells cur t (0, 0)) := hg
  have hcp1 : ∀ ty dc sc, (Builtin.copy_ #[22, 22] ty #[.slice (some ⟨b, (i + m) * 37, none⟩) (n + m - (i + m)) dc, .slice (some ⟨b, i * 37, none⟩) (n + m - i) sc]).run Try.prog w.drew = .ok (goInt (Nat.min (n + m - i) (n + m - (i + m)))) ((w.drew).setRow b cur1) := fun ty dc sc => by
    have h := run_copy_src w.drew 22 22 ty 47 b ((i + m) * 37) (n + m - (i + m)) dc (.slice (some ⟨b, i * 37, none⟩) (n + m - i) sc) (n + m - i) ms cur t i0 Try.underlying22 hi0 hgd (by simp [Builtin.lenOf])
      (by
        have e : Nat.min (n + m - i) (n + m - (i + m)) = n - i := by simp only [Nat.min_def]; split <;> omega
        rw [e, hsz]
        exact run_firstCells_some w.drew 37 (n - i) ⟨b, i * 37, none⟩ (n + m - i) sc ms (by omega) (fun j v hj => by rw [addr_add _ _ rfl, cell_of_row _ _ _ cur t (0, 0) hgd]; exact hmc j v hj)) hm1 (by omega)
    rw [h, ← hc1]
  obtain ⟨W1, hW1⟩ : ∃ W1, W1 = (w.drew).setRow b cur1 := ⟨_, rfl⟩
  have hg1 : W1.heap[b]? = some (.cells cur1 t (0, 0)) := by rw [hW1]; exact setRow_heap _ b cur cur1 t (0, 0) hgd
  have hv1 : ∀ j u, news[j]? = some u → W1.cell? ⟨vb, voff + j, none⟩ = some u := fun j u hj => by
    rw [hW1, World.cell?_of_block (w := w) (setRow_other _ b vb cur1 hvb)]
    exact hnc j u hj
  have hcp2 : ∀ (W : World), (∀ k, W.heap[k]? = W1.heap[k]?) → ∀ ty dc, (Builtin.copy_ #[22, 22] ty #[.slice (some ⟨b, i * 37, none⟩) (n + m - i) dc, .slice (some ⟨vb, voff, none⟩) m vc]).run Try.prog W = .ok (goInt (Nat.min m (n + m - i))) (W.setRow b (cur1.toList.take (i * 37) ++ news ++ cur1.toList.drop (i * 37 + news.length)).toArray) := fun W hW ty dc =>
    run_copy_src W 22 22 ty 47 b (i * 37) (n + m - i) dc (.slice (some ⟨vb, voff, none⟩) m vc) m news cur1 t i0 Try.underlying22 hi0 (by rw [hW]; exact hg1) (by simp [Builtin.lenOf])
      (by
        have e : Nat.min m (n + m - i) = m := by simp only [Nat.min_def]; split <;> omega
        rw [e, hsz]
        exact run_firstCells_some W 37 m ⟨vb, voff, none⟩ m vc news (by omega) (fun j v hj => by rw [addr_add _ _ rfl, World.cell?_of_block (w := W1) (hW _)]; exact hv1 j v hj)) hn1 (by omega)
  rw [← hW1] at hcp1
  clear hmc hm1 hnc hn1 hv1 hc1
  go_enter Try.func42, Try.ntmps42
  go_wp2_with (simp only [hov])
  go_region_law_o (refine step_copy_run rfl _ _ 22 22 rfl _ _ (by simp [Act.eval, Act.put]) (by simp [Act.eval, Act.put]) (hcp1 _ _ _) ?_)
  go_wp2_with (at_builtin; refine wpList_copy_run _ rfl _ _ 22 22 rfl _ _ rfl rfl (hcp2 _ (fun _ => rfl) _ _) ?_)
  go_ret
  exact ⟨rfl, by rw [List.append_assoc, hnl]⟩

set_option maxHeartbeats 4000000 in
set_option maxRecDepth 100000 in
/-- at the end: as append does -/
theorem ins_end (base : Option Addr) (n c vb voff m vc : Nat) (w : World) (hm : 0 < m) (hnc : n ≤ c) (v' : Value) (w' : World)
    (hrun : ∀ ty, (Builtin.append_ #[22, 22] ty #[.slice base n c, .slice (some ⟨vb, voff, none⟩) m vc]).run Try.prog w = .ok v' w') :
    Calls Try.prog 42 #[.slice base n c, .int .i64 n, .slice (some ⟨vb, voff, none⟩) m vc] w fun e w2 => e = .returned v' ∧ w2 = w' := by
  have mixed : Try.prog.follows .mixedOrders = true := by kernel_rfl
  have hz1 : ¬ ((m : Int) = 0) := by omega
  go_enter Try.func42, Try.ntmps42
  cases base with
  | none =>
    go_wp2_with (at_builtin; refine Lib.wpList_append_run _ rfl _ _ _ _ rfl _ _ rfl rfl _ _ (hrun _) ?_)
    all_goals (go_ret; exact ⟨rfl, rfl⟩)
  | some a =>
    obtain ⟨ab, ao, asp⟩ := a
    go_wp2_with (at_builtin; refine Lib.wpList_append_run _ rfl _ _ _ _ rfl _ _ rfl rfl _ _ (hrun _) ?_)
    all_goals (go_ret; exact ⟨rfl, rfl⟩)

set_option maxHeartbeats 4000000 in
set_option maxRecDepth 100000 in
/-- i < len(s), no room: a new row -/
theorem ins_grow (i0 : TypeInfo) (hi0 : Try.prog.info? 47 = some i0) (hsz : i0.size = 37) (z : Value) (hz : i0.zero = some z) (b n c i m vb voff vc : Nat) (hd ms news : List Value) (w : World) (hi : i < n) (hm : 0 < m) (hnc : n ≤ c) (hroom : c < n + m) (hbig : (n + m) * i0.bytes ≤ 140737488355328) (hby : 0 < i0.bytes)
    (hbw : b < w.heap.size) (hvw : vb < w.heap.size)
    (hhd : hd.length = i * 37) (hhc : ∀ j u, hd[j]? = some u → w.cell? ⟨b, j, none⟩ = some u)
    (hms : ms.length = (n - i) * 37) (hmc : ∀ j u, ms[j]? = some u → w.cell? ⟨b, i * 37 + j, none⟩ = some u) (hm1 : ∀ u, u ∈ ms → u.oneCell' = true)
    (hnl : news.length = m * 37) (hnw : ∀ j u, news[j]? = some u → w.cell? ⟨vb, voff + j, none⟩ = some u) (hn1 : ∀ u, u ∈ news → u.oneCell' = true)
    (row row1 : Array Value) (hrow : row = hd.toArray ++ Builtin.zeroCells z.cells (n + m - i) ++ Builtin.zeroCells z.cells (grownCap w (n + m) c 47 - (n + m))) (hzc : z.cells.size = 37)
    (hrow1 : row1 = (row.toList.take (i * 37) ++ news ++ row.toList.drop (i * 37 + news.length)).toArray) :
    Calls Try.prog 42 #[.slice (some ⟨b, 0, none⟩) n c, .int .i64 i, .slice (some ⟨vb, voff, none⟩) m vc] w fun e w' =>
      e = .returned (.slice (some ⟨w.heap.size, 0, none⟩) (n + m) (grownCap w (n + m) c 47)) ∧
      w' = ((((w.alloc (.cells row 47)).drew).setRow w.heap.size row1).drew).setRow w.heap.size (row1.toList.take ((i + m) * 37) ++ ms ++ row1.toList.drop ((i + m) * 37 + ms.length)).toArray := by
  have mixed : Try.prog.follows .mixedOrders = true := by kernel_rfl
  have hz1 : ¬ ((m : Int) = 0) := by omega
  have hz2 : ¬ ((i : Int) = (n : Int)) := by omega
  have hz3 : (c : Int) < (n : Int) + (m : Int) := by omega
  have hkk : (n : Int) + (m : Int) - (i : Int) = ((n + m - i : Nat) : Int) := by omega
  have hik : i + (n + m - i) = n + m := by omega
  have hnm : n + m ≤ 140737488355328 := Nat.le_trans (Nat.le_mul_of_pos_right _ hby) hbig
  have hold : (Builtin.firstCells i0.size i (.slice (some ⟨b, 0, none⟩) i c)).run Try.prog w.drew = .ok hd.toArray w.drew := by
    rw [hsz]
    exact run_firstCells_some w.drew 37 i ⟨b, 0, none⟩ i c hd (by omega) (fun j v hj => by rw [addr_add _ _ rfl, Nat.zero_add]; exact hhc j v hj)
  have hrz : ∀ ty, (Builtin.append_ #[22, 3] ty #[.slice (some ⟨b, 0, none⟩) i c, .int .i64 ((n : Int) + (m : Int) - (i : Int))]).run Try.prog w =
      .ok (.slice (some ⟨w.heap.size, 0, none⟩) (n + m) (grownCap w (n + m) c 47)) (w.drew.alloc (.cells row 47)) := fun ty => by
    have h := Lib.run_append_grow_zeros w 22 3 ty 47 i0 _ .i64 .i64 Try.underlying22 Try.underlying3 hi0 hz (some ⟨b, 0, none⟩) i c hd hold (n + m - i) (by omega) (by omega) (by omega) (by omega)
      (by have : (n + m - i) * i0.bytes ≤ (n + m) * i0.bytes := Nat.mul_le_mul_right _ (by omega)
          omega) (by rw [hik]; exact growslice_fits hroom hbig)
    rw [hik] at h
    rw [hkk, hrow]
    exact h
  obtain ⟨G, hG⟩ : ∃ G, G = grownCap w (n + m) c 47 := ⟨_, rfl⟩
  rw [← hG] at hrz hrow ⊢
  have hGn : n + m ≤ G := by rw [hG]; exact grownCap_ge w _ _ _
  have hG63 : G ≤ 9223372036854775807 := by
    have := grownCap_le_maxLen w (n + m) c 47 (by unfold maxLen; omega)
    rw [← hG] at this
    unfold maxLen at this
    omega
  have hRl : row.size = i * 37 + (n + m - i) * 37 + (G - (n + m)) * 37 := by
    rw [hrow]
    simp [Builtin.zeroCells, hzc, hhd, Nat.add_assoc]
  have hR1 : row1.size = row.size := by
    rw [hrow1]
    simp
    omega
  obtain ⟨N, hN⟩ : ∃ N, N = w.heap.size := ⟨_, rfl⟩
  have hbN : b ≠ N := by omega
  have hvN : vb ≠ N := by omega
  rw [← hN] at hrz ⊢
  have hcpA : ∀ (W : World), (∀ k, W.heap[k]? = (w.alloc (.cells row 47)).heap[k]?) → ∀ ty dc, (Builtin.copy_ #[22, 22] ty #[.slice (some ⟨N, i * 37, none⟩) (n + m - i) dc, .slice (some ⟨vb, voff, none⟩) m vc]).run Try.prog W = .ok (goInt (Nat.min m (n + m - i))) (W.setRow N row1) := fun W hW ty dc => by
    have h := run_copy_src W 22 22 ty 47 N (i * 37) (n + m - i) dc (.slice (some ⟨vb, voff, none⟩) m vc) m news row 47 i0 Try.underlying22 hi0 (by rw [hW, hN]; exact alloc_at) (by simp [Builtin.lenOf])
      (by
        have e : Nat.min m (n + m - i) = m := by simp only [Nat.min_def]; split <;> omega
        rw [e, hsz]
        refine run_firstCells_some W 37 m ⟨vb, voff, none⟩ m vc news (by omega) (fun j v hj => ?_)
        rw [addr_add _ _ rfl, World.cell?_of_block (w := w) ((hW _).trans (alloc_lt hvw))]
        exact hnw j v hj) hn1 (by omega)
    rw [h, ← hrow1]
  have hcpB : ∀ (W : World), (∀ k, W.heap[k]? = ((w.alloc (.cells row 47)).setRow N row1).heap[k]?) → ∀ ty dc sc, (Builtin.copy_ #[22, 22] ty #[.slice (some ⟨N, (i + m) * 37, none⟩) (n + m - (i + m)) dc, .slice (some ⟨b, i * 37, none⟩) (n - i) sc]).run Try.prog W = .ok (goInt (Nat.min (n - i) (n + m - (i + m)))) (W.setRow N (row1.toList.take ((i + m) * 37) ++ ms ++ row1.toList.drop ((i + m) * 37 + ms.length)).toArray) := fun W hW ty dc sc => by
    refine run_copy_src W 22 22 ty 47 N ((i + m) * 37) (n + m - (i + m)) dc (.slice (some ⟨b, i * 37, none⟩) (n - i) sc) (n - i) ms row1 47 i0 Try.underlying22 hi0 (by rw [hW]; exact setRow_heap _ N row row1 47 (0, 0) (by rw [hN]; exact alloc_at)) (by simp [Builtin.lenOf])
      (by
        have e : Nat.min (n - i) (n + m - (i + m)) = n - i := by simp only [Nat.min_def]; split <;> omega
        rw [e, hsz]
        refine run_firstCells_some W 37 (n - i) ⟨b, i * 37, none⟩ (n - i) sc ms (by omega) (fun j v hj => ?_)
        rw [addr_add _ _ rfl, World.cell?_of_block (w := w) (by rw [hW, setRow_other _ N b row1 hbN]; exact alloc_lt hbw)]
        exact hmc j v hj) hm1 (by omega)
  have hGi : ¬ (G = i) := by omega
  have hGim : ¬ (G = i + m) := by omega
  have hci : ¬ (c = i) := by omega
  have hw1 : IntKind.i64.wrap ((i : Int) + (m : Int)) = (i : Int) + (m : Int) := by rw [IntKind.wrap_i64]; omega
  have hb1 : (0 : Int) ≤ (i : Int) + (m : Int) := by omega
  have hin : i ≤ n := by omega
  have htn : ((i : Int) + (m : Int)).toNat = i + m := by omega
  have hb3 : (i : Int) ≤ (n : Int) := by omega
  clear hkk hik hold hrow hG hhc hhd hmc hnw hRl hrow1 hz hzc
  subst hN
  have hcA := fun ty dc => hcpA ((w.alloc (.cells row 47)).drew) (fun _ => rfl) ty dc
  clear hcpA
  go_enter Try.func42, Try.ntmps42
  go_wp2_with (at_builtin; refine Lib.wpList_append_run _ rfl _ _ _ _ rfl _ _ rfl rfl _ _ (hrz _) ?_)
  go_region_law_o (refine step_copy_run rfl _ _ 22 22 rfl (.slice (some ⟨w.heap.size, (i + m) * 37, none⟩) (n + m - (i + m)) (G - (i + m))) (.slice (some ⟨b, i * 37, none⟩) (n - i) (c - i)) (by simp [Act.eval, Act.put]) (by simp [Act.eval, Act.put]) (hcpB ((((w.alloc (.cells row 47)).drew).setRow w.heap.size row1).drew) (fun _ => rfl) 3 (G - (i + m)) (c - i)) ?_)
  go_wp2
  go_ret
  exact ⟨rfl, by rw [List.append_assoc, hms]⟩

set_option maxRecDepth 100000 in
theorem ins_sound {ty : TypeId → Option Vk} {k : Vk} (hk : ty 47 = some k) (hK : k.ks.length = 37) : SoundAt Try.prog ty 42 ⟨[.g 47, .p, .g 47], [.o 47]⟩ (insSpec 47 80) := by
  intro l0 rs hf w vs blks X hp
  have hinfo : (Try.prog.info? 47).map (fun i => (i.zero.map (fun z => z.cells.size), i.size, i.bytes)) = some (some 37, 37, 80) := by kernel_rfl
  obtain ⟨i0, hi0, z, hz, hzc, hsz, hby⟩ : ∃ i0, Try.prog.info? 47 = some i0 ∧ ∃ z, i0.zero = some z ∧ z.cells.size = 37 ∧ i0.size = 37 ∧ i0.bytes = 80 := by
    cases e : Try.prog.info? 47 with
    | none => rw [e] at hinfo; cases hinfo
    | some i =>
      rw [e] at hinfo
      simp only [Option.map_some, Option.some.injEq, Prod.mk.injEq] at hinfo
      obtain ⟨h1, h2, h3⟩ := hinfo
      cases ez : i.zero with
      | none => rw [ez] at h1; cases h1
      | some z => rw [ez] at h1; exact ⟨i, rfl, z, ez, by simpa using h1, h2, h3⟩
  unfold insSpec at hf
  split at hf
  rotate_left
  · cases hf
  rename_i e nb l kk ii e' nb' xs
  split at hf
  rotate_left
  · cases hf
  rename_i hc
  obtain ⟨rfl, rfl, rfl, hx, hi1, hil, hbig⟩ := hc
  cases hf
  obtain ⟨i, rfl⟩ : ∃ i : Nat, ii = i := ⟨ii.toNat, by omega⟩
  have hil : i ≤ l.length := by omega
  rw [Int.toNat_natCast]
  have hm : 0 < xs.length := by cases xs with | nil => cases hx | cons => simp
  have hsz3 : vs.size = 3 := hp.sz
  obtain ⟨v0, v1, v2, rfl⟩ : ∃ a b c, vs = #[a, b, c] := by
    rcases vs with ⟨vl⟩
    rcases vl with _ | ⟨a, _ | ⟨b, _ | ⟨c, _ | _⟩⟩⟩ <;> simp at hsz3
    exact ⟨a, b, c, rfl⟩
  obtain ⟨nb1, els1, k1, e1, k1e, r1⟩ := hp.args 0 _ rfl
  obtain ⟨_, b1, r2⟩ := hp.args 1 _ rfl
  obtain ⟨nb3, els3, k3, e3, k3e, r3⟩ := hp.args 2 _ rfl
  simp only [List.getD_cons_zero, List.getD_cons_succ, D.ov.injEq, true_and] at e1 e3
  obtain ⟨rfl, rfl⟩ := e1
  obtain ⟨rfl, rfl⟩ := e3
  rw [hk] at k1e k3e
  cases k1e
  cases k3e
  simp only [List.getD_cons_zero, List.getD_cons_succ] at r2
  have ev0 : (#[v0, v1, v2] : Array Value).getD 0 undef = v0 := rfl
  have ev1 : (#[v0, v1, v2] : Array Value).getD 1 undef = v1 := rfl
  have ev2 : (#[v0, v1, v2] : Array Value).getD 2 undef = v2 := rfl
  rw [ev0] at r1
  rw [ev1] at r2
  rw [ev2] at r3
  cases r2
  rcases rowR_cells r3 with ⟨_, h0, _⟩ | ⟨_, vb, vc, vcur, vt, hvb, rfl, hvh, hvn, hvm, hvs, hvc, hvf⟩
  · rw [h0] at hm; simp at hm
  rw [hK] at hvs hvc
  have hv1 := CellsL.one (k := k) (by rw [hK]; exact hvc) hvf
  have hvl : (vcur.toList.take (xs.length * 37)).length = xs.length * 37 := hvc.1
  obtain ⟨news, hnews⟩ : ∃ news, news = vcur.toList.take (xs.length * 37) := ⟨_, rfl⟩
  rw [← hnews] at hvc hv1 hvl
  have hvmul : xs.length * 37 ≤ vc * 37 := Nat.mul_le_mul_right _ hvn
  have hnc : ∀ (w' : World), w'.heap[vb]? = w.heap[vb]? → ∀ j u, news[j]? = some u → w'.cell? ⟨vb, 0 + j, none⟩ = some u := by
    intro w' hw j u hj
    rw [World.cell?_of_block (w := w) hw, cell_of_row w vb _ vcur vt (0, 0) hvh]
    rw [hnews] at hj
    have hjl : j < xs.length * 37 := by
      have := (List.getElem?_eq_some_iff.1 hj).1
      rw [← hnews, hvl] at this
      exact this
    rw [List.getElem?_take_of_lt hjl] at hj
    simpa using hj
  have hvlt : vb < w.heap.size := (Array.getElem?_eq_some_iff.1 hvh).1
  have hfitA : ∀ d, d ∈ l.take i ++ xs ++ l.drop i → (∀ d, d ∈ l → k.fits d = true) → k.fits d = true := by
    intro d hd hl
    rcases List.mem_append.1 hd with hd | hd
    · rcases List.mem_append.1 hd with hd | hd
      · exact hl d (List.mem_of_mem_take hd)
      · exact hvf d hd
    · exact hl d (List.mem_of_mem_drop hd)
  have hlenA : (l.take i ++ xs ++ l.drop i).length = l.length + xs.length := by simp; omega
  have hsrcV : ∀ w' : World, w'.heap = w.heap → GD.Src Try.prog w' 37 (.slice (some ⟨vb, 0, none⟩) xs.length vc) xs.length news := by
    intro w' hw
    refine src_some hvl (fun j u hj => ?_) hv1
    rw [addr_add _ _ rfl]
    exact hnc w' (by rw [hw]) j u hj
  -- a new row at the end
  have endGrow : ∀ (base : Option Addr) (c : Nat) (hd : List Value), i = l.length → l.length ≤ c → c < l.length + xs.length → v0 = .slice base l.length c → (∀ d, d ∈ l → k.fits d = true) →
      CellsL ty w (fun b => b < w.heap.size ∧ ¬ X b ∧ ∀ j, blks j ≠ some b) 37 l hd → (∀ w' : World, w'.heap = w.heap → GD.Src Try.prog w' 37 (.slice base l.length c) l.length hd) →
      Calls Try.prog 42 #[v0, .int .i64 i, .slice (some ⟨vb, 0, none⟩) xs.length vc] w fun
      | .returned v, w' => ∃ rv rb, v = retV rv ∧ Post ty [.g 47, .p, .g 47] [.o 47] [.ov 47 false (l.take i ++ xs ++ l.drop i)] w #[v0, .int .i64 i, .slice (some ⟨vb, 0, none⟩) xs.length vc] blks X w' rv rb
      | _, _ => False := by
    intro base c hd hil hlc hroom e0 hlf hcl hsrc
    subst e0
    subst hil
    have hrun : ∀ ty', (Builtin.append_ #[22, 22] ty' #[.slice base l.length c, .slice (some ⟨vb, 0, none⟩) xs.length vc]).run Try.prog w = _ := fun ty' =>
      run_app_grow (P := Try.prog) (w := w) (t := 22) (u := 22) (e := 47) (by unfold uSl; rw [Try.underlying22]; rfl) (by unfold uApp; rw [Try.underlying22]) hi0 hz (by rw [hsz]; exact hsrcV w rfl) (by rw [hsz]; exact hsrc w rfl) hroom (by omega) (by rw [hby]; exact growslice_fits hroom hbig)
    refine (ins_end base l.length c vb 0 xs.length vc w hm hlc _ _ hrun).mono ?_
    rintro e w' ⟨rfl, rfl⟩
    have hgc : l.length + xs.length ≤ grownCap w (l.length + xs.length) c 47 := grownCap_ge w _ _ _
    have hgm := grownCap_le_maxLen w (l.length + xs.length) c 47 (by unfold maxLen; omega)
    have hlt : w.heap.size < (w.drew.alloc (.cells (hd.toArray ++ news.toArray ++ Builtin.zeroCells z.cells (grownCap w (l.length + xs.length) c 47 - (l.length + xs.length))) 47)).heap.size := by
      show w.heap.size < (w.heap.push _).size
      simp
    have hS : ∀ b, b < w.heap.size → (w.drew.alloc (.cells (hd.toArray ++ news.toArray ++ Builtin.zeroCells z.cells (grownCap w (l.length + xs.length) c 47 - (l.length + xs.length))) 47)).heap[b]? = w.heap[b]? := fun b hb => alloc_lt (w := w.drew) hb
    refine post_row hp rfl hk (g := w.heap.size) ⟨hlt, .inl (Nat.le_refl _)⟩ ?_ rfl rfl rfl (Nat.le_of_lt hlt) (fun b hb _ => hS b hb)
    rw [List.take_length, List.drop_length, List.append_nil]
    refine rowR_of (vs := hd ++ news) (by simp) (alloc_at (w := w.drew)) (by simpa using hgc) hgm ?_ ?_ ?_ ?_
    · simp [Builtin.zeroCells, hzc, hcl.1, hvl, hK]
      rw [← Nat.add_mul, ← Nat.add_mul]
      congr 1
      omega
    · rw [hK]
      have : (hd ++ news).length = (l ++ xs).length * 37 := by rw [List.length_append, List.length_append, hcl.1, hvl, Nat.add_mul]
      simp only [Array.toList_append, List.append_assoc]
      rw [← List.append_assoc, List.take_left' this]
    · rw [hK]
      refine CellsL.append (hcl.mono (fun b hb => okR_row (Nat.le_of_lt hlt) (.inl (Nat.le_refl _)) hb) fun b hb => hS b hb.1) (hvc.mono (fun b hb => okR_row (Nat.le_of_lt hlt) (.inl (Nat.le_refl _)) hb) fun b hb => hS b hb.1)
    · intro d hd
      rcases List.mem_append.1 hd with hd | hd
      · exact hlf d hd
      · exact hvf d hd
  rcases rowR_cells r1 with ⟨_, rfl, a, rfl, _, hsp⟩ | ⟨_, g, c, cur, t, hg, rfl, hgh, hgn, hgm, hgs, hgc, hgf⟩
  · have h0 : i = 0 := by simpa using hil
    subst h0
    refine endGrow a 0 [] rfl (Nat.le_refl _) (by simpa using hm) rfl (fun d hd => by cases hd) ⟨by simp, fun i j hi => by simp at hi⟩ (fun w' _ => ?_)
    cases a with
    | none => exact src_none
    | some ad => exact src_some (by simp) (fun j u hu => by simp at hu) (fun u hu => by cases hu)
  rw [hK] at hgs hgc
  have hglt : g < w.heap.size := (Array.getElem?_eq_some_iff.1 hgh).1
  have hvg : vb ≠ g := fun h => by
    subst h
    have := hp.inj 2 0 vb hvb hg
    omega
  obtain ⟨olds, holds⟩ : ∃ olds, olds = cur.toList.take (l.length * 37) := ⟨_, rfl⟩
  rw [← holds] at hgc
  have hol := hgc.1
  have h1c := CellsL.one (k := k) (by rw [hK]; exact hgc) hgf
  have hoc : ∀ (j : Nat) (u : Value), olds[j]? = some u → cur[j]? = some u := by
    intro j u hj
    have hjl : j < l.length * 37 := by
      have := (List.getElem?_eq_some_iff.1 hj).1
      rw [hol] at this
      exact this
    rw [holds, List.getElem?_take_of_lt hjl] at hj
    simpa using hj
  have hnmul : l.length * 37 ≤ c * 37 := Nat.mul_le_mul_right _ hgn
  have himul : i * 37 ≤ l.length * 37 := Nat.mul_le_mul_right _ hil
  by_cases hroom : l.length + xs.length ≤ c
  · have hrmul : l.length * 37 + xs.length * 37 ≤ c * 37 := by rw [← Nat.add_mul]; exact Nat.mul_le_mul_right _ hroom
    -- the row that is left, told by its cells
    have fin : ∀ (w' : World) (cur2 : Array Value), w'.heap[g]? = some (.cells cur2 t (0, 0)) → w'.heap.size = w.heap.size → w'.tape = w.tape → w'.os = w.os → w'.output = w.output → (∀ b, b ≠ g → w'.heap[b]? = w.heap[b]?) → cur2.size = cur.size →
        cur2.toList.take ((l.length + xs.length) * 37) = olds.take (i * 37) ++ news ++ olds.drop (i * 37) →
        ∃ rv rb, Value.slice (some ⟨g, 0, none⟩) (l.length + xs.length) c = retV rv ∧ Post ty [.g 47, .p, .g 47] [.o 47] [.ov 47 false (l.take i ++ xs ++ l.drop i)] w #[.slice (some ⟨g, 0, none⟩) l.length c, .int .i64 i, .slice (some ⟨vb, 0, none⟩) xs.length vc] blks X w' rv rb := by
      intro w' cur2 h1 h2 h3 h4 h5 h6 h7 h8
      refine post_row hp rfl hk (g := g) ⟨by omega, .inr ⟨0, 47, rfl, hg⟩⟩ ?_ h3 h4 h5 (by omega) (fun b hb hj => h6 b fun e => hj 0 (by rw [e]; exact hg))
      have hS : Same (fun b => b < w.heap.size ∧ ¬ X b ∧ ∀ j, blks j ≠ some b) w w' := fun b hb => h6 b fun e => hb.2.2 0 (by rw [e]; exact hg)
      have hok : ∀ b, (b < w.heap.size ∧ ¬ X b ∧ ∀ j, blks j ≠ some b) → okR [.g 47, .p, .g 47] blks X w' (fun i => if i = 0 then some g else none) b := fun b hb => okR_row (by omega) (.inr ⟨0, hg⟩) hb
      refine rowR_of (vs := olds.take (i * 37) ++ news ++ olds.drop (i * 37)) (by rw [hlenA]) h1 (by rw [hlenA]; exact hroom) hgm (by rw [h7, hgs, hK]) (by rw [hlenA, hK]; exact h8) ?_ (fun d hd => hfitA d hd hgf)
      rw [hK]
      exact CellsL.append (CellsL.append ((hgc.take i hil).mono hok hS) (hvc.mono hok hS)) ((hgc.drop i hil).mono hok hS)
    rcases Nat.lt_or_ge i l.length with hlt | hge
    · -- in the middle
      have hdl : (olds.drop (i * 37)).length = (l.length - i) * 37 := by rw [List.length_drop, hol, Nat.sub_mul]
      obtain ⟨cur1, hc1⟩ : ∃ cur1 : Array Value, cur1 = (cur.toList.take ((i + xs.length) * 37) ++ olds.drop (i * 37) ++ cur.toList.drop ((i + xs.length) * 37 + (olds.drop (i * 37)).length)).toArray := ⟨_, rfl⟩
      have e1 : (i + xs.length) * 37 = i * 37 + xs.length * 37 := Nat.add_mul ..
      have e2 : (l.length - i) * 37 = l.length * 37 - i * 37 := Nat.sub_mul ..
      have e3 : (l.length + xs.length) * 37 = l.length * 37 + xs.length * 37 := Nat.add_mul ..
      have hs1 : cur1.size = cur.size := by
        rw [hc1]
        simp
        omega
      have hposc : 0 < cur.size := by rw [hgs]; omega
      refine (ins_shift i0 hi0 hsz g l.length c i xs.length vb 0 vc (olds.drop (i * 37)) news cur cur1 t w hlt hm hroom (by unfold maxLen at hgm; omega) hvg hgh hgs hdl (fun j u hj => hoc _ u (by rwa [List.getElem?_drop] at hj))
        (fun u hu => h1c u (List.mem_of_mem_drop hu)) hvl (hnc w rfl) hv1 hc1 vt vcur.size (by simp [World.shape?, hvh]) (by simp [World.frozen?, hvh]) (by simp [World.frozen?, hvh])).mono ?_
      rintro e w' ⟨rfl, rfl⟩
      have hw1 : ((w.drew).setRow g cur1).heap[g]? = some (.cells cur1 t (0, 0)) := setRow_heap _ g cur cur1 t (0, 0) hgh
      refine fin _ _ (setRow_heap _ g cur1 _ t (0, 0) hw1) ?_ rfl rfl rfl (fun b hb => by rw [setRow_other _ g b _ hb, setRow_other _ g b _ hb]; rfl) ?_ ?_
      · simp [World.setRow]
      · rw [← hs1]
        simp
        omega
      · rw [e3]
        simp only [List.toList_toArray]
        have hc1l : cur1.toList = cur.toList.take ((i + xs.length) * 37) ++ olds.drop (i * 37) ++ cur.toList.drop ((i + xs.length) * 37 + (olds.drop (i * 37)).length) := by rw [hc1]
        have t1 : cur1.toList.take (i * 37) = olds.take (i * 37) := by
          rw [hc1l, List.append_assoc, List.take_append_of_le_length (by simp; omega), List.take_take, holds, List.take_take, Nat.min_eq_left (by omega), Nat.min_eq_left (by omega)]
        have t2 : (cur1.toList.drop (i * 37 + news.length)).take (l.length * 37 - i * 37) = olds.drop (i * 37) := by
          rw [hc1l, List.append_assoc, List.drop_append, List.drop_eq_nil_of_le (by simp; omega), List.nil_append, show i * 37 + news.length - (cur.toList.take ((i + xs.length) * 37)).length = 0 by simp; omega, List.drop_zero, List.take_append_of_le_length (by omega), List.take_of_length_le (by omega)]
        rw [t1, List.take_append, List.take_of_length_le (by simp; omega), ← t2]
        congr 2
        simp
        omega
    · -- at the end
      have hie : i = l.length := by omega
      subst hie
      have hst := run_storeCells_at Try.prog g (l.length * 37) t news 0 cur w hgh (by rw [hvl]; omega) hv1
      have hrun : ∀ ty', (Builtin.append_ #[22, 22] ty' #[.slice (some ⟨g, 0, none⟩) l.length c, .slice (some ⟨vb, 0, none⟩) xs.length vc]).run Try.prog w = .ok (.slice (some ⟨g, 0, none⟩) (l.length + xs.length) c) (w.setRow g (cur.toList.take (l.length * 37) ++ news ++ cur.toList.drop (l.length * 37 + news.length)).toArray) := fun ty' => by
        have h := run_app_room (P := Try.prog) (w := w) (t := 22) (u := 22) (ty := ty') (e := 47) (by unfold uSl; rw [Try.underlying22]; rfl) (by unfold uApp; rw [Try.underlying22]) hi0 (base := some ⟨g, 0, none⟩) (n := l.length) (by rw [hsz]; exact hsrcV w rfl) hroom
        rw [h]
        simp only [addr_add (⟨g, 0, none⟩ : Addr) _ rfl, Nat.zero_add, hsz]
        simp only [Nat.add_zero] at hst
        rw [hst]
        rfl
      refine (ins_end (some ⟨g, 0, none⟩) l.length c vb 0 xs.length vc w hm hgn _ _ hrun).mono ?_
      rintro e w' ⟨rfl, rfl⟩
      refine fin _ _ (setRow_heap _ g cur _ t (0, 0) hgh) (by simp [World.setRow]) rfl rfl rfl (fun b hb => setRow_other _ g b _ hb) ?_ ?_
      · simp
        omega
      · simp only [List.toList_toArray]
        rw [← holds, List.take_of_length_le (l := olds) (by omega), List.drop_eq_nil_of_le (show olds.length ≤ _ by omega), List.append_nil, List.take_append, List.take_of_length_le (by rw [List.length_append, hol, hvl, Nat.add_mul]; omega), show (l.length + xs.length) * 37 - (olds ++ news).length = 0 by rw [List.length_append, hol, hvl, Nat.add_mul]; omega]
        simp
  · rcases Nat.lt_or_ge i l.length with hlt | hge
    · have hdl : (olds.drop (i * 37)).length = (l.length - i) * 37 := by rw [List.length_drop, hol, Nat.sub_mul]
      have htl : (olds.take (i * 37)).length = i * 37 := by rw [List.length_take, hol]; omega
      have e1 : (i + xs.length) * 37 = i * 37 + xs.length * 37 := Nat.add_mul ..
      have e2 : (l.length - i) * 37 = l.length * 37 - i * 37 := Nat.sub_mul ..
      have e3 : (l.length + xs.length) * 37 = l.length * 37 + xs.length * 37 := Nat.add_mul ..
      have e4 : (l.length + xs.length - i) * 37 = l.length * 37 + xs.length * 37 - i * 37 := by rw [Nat.sub_mul, e3]
      obtain ⟨CAP, hCAP⟩ : ∃ CAP, CAP = grownCap w (l.length + xs.length) c 47 := ⟨_, rfl⟩
      have hgc2 : l.length + xs.length ≤ CAP := by rw [hCAP]; exact grownCap_ge w _ _ _
      have hgm2 : CAP ≤ maxLen := by rw [hCAP]; exact grownCap_le_maxLen w (l.length + xs.length) c 47 (by unfold maxLen; omega)
      have e5 : (CAP - (l.length + xs.length)) * 37 = CAP * 37 - (l.length * 37 + xs.length * 37) := by rw [Nat.sub_mul, e3]
      have hcmul : (l.length + xs.length) * 37 ≤ CAP * 37 := Nat.mul_le_mul_right _ hgc2
      obtain ⟨row, hrow⟩ : ∃ row : Array Value, row = (olds.take (i * 37)).toArray ++ Builtin.zeroCells z.cells (l.length + xs.length - i) ++ Builtin.zeroCells z.cells (CAP - (l.length + xs.length)) := ⟨_, rfl⟩
      have hrs : row.size = CAP * 37 := by
        rw [hrow]
        simp [Builtin.zeroCells, hzc, htl]
        omega
      have hrt : row.toList.take (i * 37) = olds.take (i * 37) := by
        rw [hrow]
        simp only [Array.toList_append, List.append_assoc]
        exact List.take_left' htl
      obtain ⟨row1, hrow1⟩ : ∃ row1 : Array Value, row1 = (row.toList.take (i * 37) ++ news ++ row.toList.drop (i * 37 + news.length)).toArray := ⟨_, rfl⟩
      have hrs1 : row1.size = CAP * 37 := by
        rw [hrow1]
        simp
        omega
      have hrt1 : row1.toList.take ((i + xs.length) * 37) = olds.take (i * 37) ++ news := by
        rw [hrow1, hrt]
        simp only [List.toList_toArray]
        exact List.take_left' (by rw [List.length_append, htl, hvl, e1])
      refine (ins_grow i0 hi0 hsz z hz g l.length c i xs.length vb 0 vc (olds.take (i * 37)) (olds.drop (i * 37)) news w hlt hm hgn (by omega) (by rw [hby]; exact hbig) (by omega) hglt hvlt htl
        (fun j u hj => by
          rw [cell_of_row w g _ cur t (0, 0) hgh]
          have hjl : j < i * 37 := by
            have := (List.getElem?_eq_some_iff.1 hj).1
            rw [htl] at this
            exact this
          rw [List.getElem?_take_of_lt hjl] at hj
          exact hoc j u hj)
        hdl (fun j u hj => by rw [cell_of_row w g _ cur t (0, 0) hgh]; exact hoc _ u (by rwa [List.getElem?_drop] at hj)) (fun u hu => h1c u (List.mem_of_mem_drop hu)) hvl (hnc w rfl) hv1 row row1 (by rw [hrow, hCAP]) hzc hrow1).mono ?_
      rintro e w' ⟨rfl, rfl⟩
      have hA : ((w.alloc (.cells row 47)).drew).heap[w.heap.size]? = some (.cells row 47 (0, 0)) := alloc_at
      have hB : (((w.alloc (.cells row 47)).drew).setRow w.heap.size row1).heap[w.heap.size]? = some (.cells row1 47 (0, 0)) := setRow_heap _ _ row row1 47 (0, 0) hA
      obtain ⟨W, hW⟩ : ∃ W, W = ((((w.alloc (.cells row 47)).drew).setRow w.heap.size row1).drew).setRow w.heap.size (row1.toList.take ((i + xs.length) * 37) ++ olds.drop (i * 37) ++ row1.toList.drop ((i + xs.length) * 37 + (olds.drop (i * 37)).length)).toArray := ⟨_, rfl⟩
      have hC : W.heap[w.heap.size]? = some (.cells (row1.toList.take ((i + xs.length) * 37) ++ olds.drop (i * 37) ++ row1.toList.drop ((i + xs.length) * 37 + (olds.drop (i * 37)).length)).toArray 47 (0, 0)) := by rw [hW]; exact setRow_heap _ _ row1 _ 47 (0, 0) hB
      have hS : ∀ b, b < w.heap.size → W.heap[b]? = w.heap[b]? := fun b hb => by
        rw [hW, setRow_other _ _ b _ (by omega)]
        show (((w.alloc (.cells row 47)).drew).setRow w.heap.size row1).heap[b]? = _
        rw [setRow_other _ _ b _ (by omega)]
        exact alloc_lt hb
      have hlt2 : w.heap.size < W.heap.size := (Array.getElem?_eq_some_iff.1 hC).1
      have hW1 : W.tape = w.tape := by rw [hW]; rfl
      have hW2 : W.os = w.os := by rw [hW]; rfl
      have hW3 : W.output = w.output := by rw [hW]; rfl
      rw [← hW, ← hCAP]
      refine post_row hp rfl hk (g := w.heap.size) ⟨hlt2, .inl (Nat.le_refl _)⟩ ?_ hW1 hW2 hW3 (Nat.le_of_lt hlt2) (fun b hb _ => hS b hb)
      have hok : ∀ b, (b < w.heap.size ∧ ¬ X b ∧ ∀ j, blks j ≠ some b) → okR [.g 47, .p, .g 47] blks X W (fun i => if i = 0 then some w.heap.size else none) b := fun b hb => okR_row (Nat.le_of_lt hlt2) (.inl (Nat.le_refl _)) hb
      have hSS : Same (fun b => b < w.heap.size ∧ ¬ X b ∧ ∀ j, blks j ≠ some b) w W := fun b hb => hS b hb.1
      refine rowR_of (vs := olds.take (i * 37) ++ news ++ olds.drop (i * 37)) (by rw [hlenA]) hC (by rw [hlenA]; exact hgc2) hgm2 ?_ ?_ ?_ (fun d hd => hfitA d hd hgf)
      · rw [hK]
        simp
        omega
      · rw [hlenA, hK, hrt1]
        simp only [List.toList_toArray]
        exact List.take_left' (by rw [List.length_append, List.length_append, htl, hvl, hdl]; omega)
      · rw [hK]
        exact CellsL.append (CellsL.append ((hgc.take i hil).mono hok hSS) (hvc.mono hok hSS)) ((hgc.drop i hil).mono hok hSS)
    · have hie : i = l.length := by omega
      refine endGrow (some ⟨g, 0, none⟩) c olds hie hgn (by omega) rfl hgf hgc (fun w' hw => src_some hol (fun j u hj => ?_) h1c)
      rw [addr_add _ _ rfl, cell_of_row w' g _ cur t (0, 0) (by rw [hw]; exact hgh), Nat.zero_add]
      exact hoc j u hj

theorem ins_ok_42 {ty : TypeId → Option Vk} (hk : ty 47 = some ⟨true, [.str, .int .u64, .int .u8, .int .u8, .int .u8, .int .u8, .int .u8, .int .u8, .int .u8, .int .u8, .int .u8, .int .u8, .int .u8, .int .u8, .int .u8, .int .u8, .int .u8, .int .u8, .int .u8, .int .u8, .int .u8, .int .u8, .int .u8, .int .u8, .int .u8, .int .u8, .int .u8, .int .u8, .int .u8, .int .u8, .int .u8, .int .u8, .int .u8, .int .u8, .int .i64, .int .i64, .int .i64]⟩) : SoundAt Try.prog ty 42 ⟨[.g 47, .p, .g 47], [.o 47]⟩ (insSpec 47 80) ∧ BodyOk Try.prog ty 42 ⟨[.g 47, .p, .g 47], [.o 47]⟩ :=
  ⟨ins_sound hk rfl, Try.f42, Try.func42, by kernel_rfl, by kernel_rfl, fun i e hi => by
    rcases i with _ | _ | _ | i <;> simp at hi
    · subst hi; rw [hk]; rfl
    · subst hi; rw [hk]; rfl⟩

end Go.Proofs.Ytmfhhbiaghejjaa.Own.Sins42
