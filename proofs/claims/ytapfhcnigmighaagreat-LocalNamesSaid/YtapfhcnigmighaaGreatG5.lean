/- A value-level interpreter of the translated code, with the proof that it is sound: part 5. -/
import Derived.Test.YtapfhcnigmighaaGreatG4
set_option linter.unusedVariables false
set_option linter.unusedSimpArgs false
namespace Go.Proofs.YtapfhcnigmighaaGreat.GD
open Go
section
variable {ty : TypeId → Option Vk} {tab : FuncId → Option Entry}
theorem cl_body {g : FuncId} {f : DFun} (hg : tab g = some (.code f)) {l r : List D} (k : Nat) (he : dbody f (envOf ty tab (Cl ty tab)) k l = some r) : Cl ty tab g l = some r := Cl_eq.2 (Ev.body hg k he)
abbrev Im (a b : Option (List D)) : Prop := ∀ {r : List D}, a = some r → b = some r
theorem cl_im {g : FuncId} {f : DFun} (hg : tab g = some (.code f)) {l : List D} {a : Option (List D)} (k : Nat) (he : dbody f (envOf ty tab (Cl ty tab)) k l = a) : Im a (Cl ty tab g l) := fun h => cl_body hg k (he.trans h)
end
theorem iter_wf {R σ : Type} {F : List D → (List D → Option R) → Option R} (enc : σ → List D) (val : σ → Option R) (m : σ → Nat) (inv : σ → Prop)
  (step : ∀ s, inv s → ∀ again, (∀ s', inv s' → m s' < m s → again (enc s') = val s') → F (enc s) again = val s) : ∀ (k : Nat) (s : σ), inv s → m s < k → iter k F (enc s) = val s
 | 0, s, _, hk => by omega
 | k + 1, s, hs, hk => by
  unfold iter
  exact step s hs _ fun s' hs' hm => iter_wf enc val m inv step k s' hs' (by omega)
@[simp] theorem cell_int (k : IntKind) (n : Int) : (D.int k n).cell 0 = .int k n := rfl
@[simp] theorem cell_bool (b : Bool) : (D.bool b).cell 0 = .bool b := rfl
@[simp] theorem cell_str (s : ByteArray) : (D.str s).cell 0 = .str s := rfl
@[simp] theorem cell_sl (e : TypeId) (nb : Bool) (l : List D) : (D.sl e nb l).cell 0 = .sl e nb l := rfl
@[simp] theorem cell_agg (cs : List D) (j : Nat) : (D.agg cs).cell j = cs.getD j .undef := rfl
@[simp] theorem i_int (k : IntKind) (n : Int) : (D.int k n).i = n := rfl
@[simp] theorem b_bool (b : Bool) : (D.bool b).b = b := rfl
@[simp] theorem s_str (s : ByteArray) : (D.str s).s = s := rfl
@[simp] theorem nb_sl (e : TypeId) (nb : Bool) (l : List D) : (D.sl e nb l).nb = nb := rfl
@[simp] theorem els_sl (e : TypeId) (nb : Bool) (l : List D) : (D.sl e nb l).els = l := rfl
@[simp] theorem nb_ov (e : TypeId) (nb : Bool) (l : List D) : (D.ov e nb l).nb = nb := rfl
@[simp] theorem els_ov (e : TypeId) (nb : Bool) (l : List D) : (D.ov e nb l).els = l := rfl
@[simp] theorem cs_pv (l : List D) : (D.pv l).cs = l := rfl
@[simp] theorem cs_agg (l : List D) : (D.agg l).cs = l := rfl
theorem getD_map {α : Type} {f : α → D} {l : List α} {i : Nat} (h : i < l.length) : (l.map f).getD i .undef = f l[i] := by
 simp [zq1, h]
def eqC : D → D → Bool
 | .int _ a, .int _ b => a == b
 | .bool a, .bool b => a == b
 | .str a, .str b => a.toList == b.toList
 | _, _ => true
def eqCells : List D → List D → Bool
 | [x], [y] => eqC x y
 | x :: xs, y :: ys => eqC x y && eqCells xs ys
 | _, _ => true
theorem wrap64 {n : Int} (h1 : -9223372036854775808 ≤ n) (h2 : n ≤ 9223372036854775807) : IntKind.i64.wrap n = n := by
 rw [IntKind.wrap_i64]; omega
theorem cp {α : Type} {p : Prop} [Decidable p] {a b : α} (h : p) : (bif decide p then a else b) = a := by simp [h]
theorem cn {α : Type} {p : Prop} [Decidable p] {a b : α} (h : ¬ p) : (bif decide p then a else b) = b := by simp [h]
theorem cnp {α : Type} {p : Prop} [Decidable p] {a b : α} (h : p) : (bif !decide p then a else b) = b := by simp [h]
theorem cnn {α : Type} {p : Prop} [Decidable p] {a b : α} (h : ¬ p) : (bif !decide p then a else b) = a := by simp [h]
theorem ct {α : Type} {a b : α} : (bif true then a else b) = a := rfl
theorem cf {α : Type} {a b : α} : (bif false then a else b) = b := rfl
theorem beqd (a b : Int) : (a == b) = decide (a = b) := by by_cases h : a = b <;> simp [h]
theorem bned (a b : Int) : (a != b) = decide (a ≠ b) := by by_cases h : a = b <;> simp [h]
theorem c2 {i : Nat} {n : Int} (h : n = i) (h1 : n.toNat = i) : n.toNat = i := h1
theorem mid {i j : Nat} (h1 : i ≤ j) (h2 : j ≤ 9223372036854775807) : IntKind.i64.wrap (Int.fdiv (IntKind.u64.wrap (IntKind.i64.wrap ((i : Int) + (j : Int)))) (2 ^ 1)) = (((i + j) / 2 : Nat) : Int) := by
 have e1 : IntKind.u64.wrap (IntKind.i64.wrap ((i : Int) + (j : Int))) = (i : Int) + j := by
  have e2 : ∀ n : Int, IntKind.u64.wrap n = n % 18446744073709551616 := fun n => by simp [IntKind.wrap, IntKind.bits, IntKind.signed]
  rw [e2, IntKind.wrap_i64]
  omega
 rw [e1, Int.fdiv_eq_ediv_of_nonneg _ (by omega)]
 rw [wrap64 (by omega) (by omega)]
 omega
theorem fitsV_nil {dd : List D} (h : fitsV [] dd = true) : dd = [] := by
 cases dd with
 | nil => rfl
 | cons d ds => cases h
theorem WT.cells {ty : TypeId → Option Vk} {cs : List D} (h : WT ty (.agg cs)) : ∀ d, d ∈ cs → WT ty d := by cases h with | agg _ h => exact h
theorem WT.els {ty : TypeId → Option Vk} {e : TypeId} {nb : Bool} {els : List D} (h : WT ty (.sl e nb els)) : els.length ≤ 9223372036854775807 ∧ (nb = true → els = []) ∧ (∀ k, ty e = some k → ∀ d, d ∈ els → k.fits d = true) ∧ ∀ d, d ∈ els → WT ty d := by
 cases h with | sl _ _ _ h1 h2 h3 h4 => exact ⟨by simpa [maxLen] using h1, h2, h3, h4⟩
def gD (l : List D) (n : Nat) : D := l.getD n .undef
def gI (l : List D) (n j : Nat) : Int := ((l.getD n .undef).cell j).i
def gB (l : List D) (n j : Nat) : Bool := ((l.getD n .undef).cell j).b
def gN (l : List D) (n j : Nat) : Bool := ((l.getD n .undef).cell j).nb
def gE (l : List D) (n j : Nat) : List D := ((l.getD n .undef).cell j).els
def gS (e : TypeId) (l : List D) (n j : Nat) : D := .sl e ((l.getD n .undef).cell j).nb ((l.getD n .undef).cell j).els
def gP (e : TypeId) (l : List D) (n j : Nat) : D := .sl e ((l.getD n .undef).cs.getD j .undef).nb ((l.getD n .undef).cs.getD j .undef).els
def gQ (e : TypeId) (l : List D) (n j : Nat) : D := .ov e ((l.getD n .undef).cs.getD j .undef).nb ((l.getD n .undef).cs.getD j .undef).els
theorem grs : (∀ e l n j, gS e l n j = .sl e ((l.getD n .undef).cell j).nb ((l.getD n .undef).cell j).els) ∧ (∀ e l n j, gP e l n j = .sl e ((l.getD n .undef).cs.getD j .undef).nb ((l.getD n .undef).cs.getD j .undef).els) ∧ (∀ e l n j, gQ e l n j = .ov e ((l.getD n .undef).cs.getD j .undef).nb ((l.getD n .undef).cs.getD j .undef).els) ∧ (∀ l n, gD l n = l.getD n .undef) ∧ (∀ l n j, gI l n j = ((l.getD n .undef).cell j).i) ∧ (∀ l n j, gB l n j = ((l.getD n .undef).cell j).b) ∧ (∀ l n j, gN l n j = ((l.getD n .undef).cell j).nb) ∧ (∀ l n j, gE l n j = ((l.getD n .undef).cell j).els) := ⟨fun _ _ _ _ => rfl, fun _ _ _ _ => rfl, fun _ _ _ _ => rfl, fun _ _ => rfl, fun _ _ _ => rfl, fun _ _ _ => rfl, fun _ _ _ => rfl, fun _ _ _ => rfl⟩
theorem gds : ((∀ e l n j, gS e l n j = .sl e ((l.getD n .undef).cell j).nb ((l.getD n .undef).cell j).els) ∧ (∀ e l n j, gP e l n j = .sl e ((l.getD n .undef).cs.getD j .undef).nb ((l.getD n .undef).cs.getD j .undef).els) ∧ (∀ e l n j, gQ e l n j = .ov e ((l.getD n .undef).cs.getD j .undef).nb ((l.getD n .undef).cs.getD j .undef).els) ∧ (∀ l n, gD l n = l.getD n .undef) ∧ (∀ l n j, gI l n j = ((l.getD n .undef).cell j).i) ∧ (∀ l n j, gB l n j = ((l.getD n .undef).cell j).b) ∧ (∀ l n j, gN l n j = ((l.getD n .undef).cell j).nb) ∧ (∀ l n j, gE l n j = ((l.getD n .undef).cell j).els)) ∧ (∀ h : Decidable True, @decide True h = true) ∧ (∀ h : Decidable False, @decide False h = false) ∧
  (∀ (α : Type) (h : Decidable True) (a b : α), @ite α True h a b = a) ∧ (∀ (α : Type) (h : Decidable False) (a b : α), @ite α False h a b = b) ∧
  ((false = true) = False) ∧ ((true = false) = False) ∧ (∀ (α : Type) (a : α), (a = a) = True) ∧
  (∀ b, (true || b) = true) ∧ (∀ b, (false || b) = b) ∧ (∀ b, (true && b) = b) ∧ (∀ b, (false && b) = false) ∧ (∀ b, (b || true) = true) ∧ (∀ b, (b || false) = b) ∧ (∀ b, (b && true) = b) ∧ (∀ b, (b && false) = false) ∧
  (∀ (x : D) l d, (x :: l).getD 0 d = x) ∧ (∀ (x : D) l n d, (x :: l).getD (n + 1) d = l.getD n d) ∧
  (∀ k n, (D.int k n).cell 0 = .int k n) ∧ (∀ b, (D.bool b).cell 0 = .bool b) ∧ (∀ s, (D.str s).cell 0 = .str s) ∧ (∀ e b l, (D.sl e b l).cell 0 = .sl e b l) ∧ (∀ cs j, (D.agg cs).cell j = cs.getD j .undef) ∧
  (∀ k n, (D.int k n).i = n) ∧ (∀ b, (D.bool b).b = b) ∧ (∀ s, (D.str s).s = s) ∧ (∀ e b l, (D.sl e b l).nb = b) ∧ (∀ e b l, (D.sl e b l).els = l) ∧ (∀ e b l, (D.ov e b l).nb = b) ∧ (∀ e b l, (D.ov e b l).els = l) ∧ (∀ l, (D.pv l).cs = l) ∧ (∀ l, (D.agg l).cs = l) ∧
  (∀ n : Nat, (n : Int).toNat = n) ∧ (∀ i : Nat, 1 ≤ i → ((i : Int) - 1).toNat = i - 1) ∧ (∀ i : Nat, ((i : Int) + 1).toNat = i + 1) ∧
  (∀ (α β : Type) (f : α → β) l, (List.map f l).length = l.length) ∧ (∀ (α : Type) (f : α → D) (l : List α) (i : Nat) (h : i < l.length), (l.map f).getD i .undef = f l[i]) ∧
  (∀ (α : Type) (a b : α), (bif true then a else b) = a) ∧ (∀ (α : Type) (a b : α), (bif false then a else b) = b) ∧ (∀ a b : Int, (a == b) = decide (a = b)) ∧ (∀ a b : Int, (a != b) = decide (a ≠ b)) ∧
  (∀ (α : Type) (p : Prop) (h : Decidable p) (a b : α), p → (bif @decide p h then a else b) = a) ∧ (∀ (α : Type) (p : Prop) (h : Decidable p) (a b : α), ¬ p → (bif @decide p h then a else b) = b) ∧
  (∀ (α : Type) (p : Prop) (h : Decidable p) (a b : α), p → (bif !@decide p h then a else b) = b) ∧ (∀ (α : Type) (p : Prop) (h : Decidable p) (a b : α), ¬ p → (bif !@decide p h then a else b) = a) ∧
  (∀ (α : Type) (p : Prop) (h : Decidable p) (a b : α), p → @ite α p h a b = a) ∧ (∀ (α : Type) (p : Prop) (h : Decidable p) (a b : α), ¬ p → @ite α p h a b = b) ∧
  (∀ n : Int, -9223372036854775808 ≤ n → n ≤ 9223372036854775807 → IntKind.i64.wrap n = n) ∧ (∀ (α β : Type) (a : α) (f : α → Option β), (some a).bind f = f a) ∧ ((!true) = false) ∧ ((!false) = true) ∧
  ((([] : List D).isEmpty) = true) ∧ (∀ l : List D, [] ++ l = l) ∧ (([] : List D).length = 0) ∧ (∀ (x : D) l, (x :: l).length = l.length + 1) ∧ (∀ n, 0 + n = n) := by
 refine ⟨grs, ?_, ?_, ?_, ?_, ?_, ?_, ?_, ?_, ?_, ?_, ?_, ?_, ?_, ?_, ?_, fun _ _ _ => rfl, fun _ _ _ _ => rfl, fun _ _ => rfl, fun _ => rfl, fun _ => rfl, fun _ _ _ => rfl, fun _ _ => rfl, fun _ _ => rfl, fun _ => rfl, fun _ => rfl, fun _ _ _ => rfl, fun _ _ _ => rfl, fun _ _ _ => rfl, fun _ _ _ => rfl, fun _ => rfl, fun _ => rfl, ?_, ?_, ?_, ?_, fun _ f l i h => getD_map h, ?_, ?_, beqd, bned, fun _ p _ _ _ h => cp h, fun _ p _ _ _ h => cn h, fun _ p _ _ _ h => cnp h, fun _ p _ _ _ h => cnn h, fun _ p _ _ _ h => if_pos h, fun _ p _ _ _ h => if_neg h, fun _ => wrap64, fun _ _ _ _ => rfl, rfl, rfl, rfl, fun _ => rfl, rfl, fun _ _ => rfl, ?_⟩ <;> intros <;> first | rfl | omega | simp
end Go.Proofs.YtapfhcnigmighaaGreat.GD
