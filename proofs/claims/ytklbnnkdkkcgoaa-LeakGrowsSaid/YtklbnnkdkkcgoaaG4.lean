/- A value-level interpreter of the translated code, with the proof that it is sound: part 4. -/
import Derived.Test.YtklbnnkdkkcgoaaG3
namespace Go.Proofs.Ytklbnnkdkkcgoaa.GD
open Go
set_option linter.unusedVariables false
set_option linter.unusedSimpArgs false

section
variable {ty : TypeId → Option Vk} {tab : FuncId → Option Entry}

theorem cl_body {g : FuncId} {f : DFun} (hg : tab g = some (.code f)) {l r : List D} (k : Nat) (he : dbody f (envOf ty tab (Cl ty tab)) k l = some r) : Cl ty tab g l = some r := Cl_eq.2 (Ev.body hg k he)

theorem lawTrue_of {g : FuncId} {ks : List Vk} (h : ∀ dd : List D, fitsV ks dd = true → (∀ d, d ∈ dd → WT ty d) → Cl ty tab g dd = some [.bool true]) : LawTrue ty tab g ks :=
  fun dd h1 h2 => Cl_eq.1 (h dd h1 h2)
end

/-- a loop: from state s on it gives val s -/
theorem iter_wf {R σ : Type} {F : List D → (List D → Option R) → Option R} (enc : σ → List D) (val : σ → Option R) (m : σ → Nat) (inv : σ → Prop)
    (step : ∀ s, inv s → ∀ again, (∀ s', inv s' → m s' < m s → again (enc s') = val s') → F (enc s) again = val s) : ∀ (k : Nat) (s : σ), inv s → m s < k → iter k F (enc s) = val s
  | 0, s, _, hk => by omega
  | k + 1, s, hs, hk => by
    unfold iter
    exact step s hs _ fun s' hs' hm => iter_wf enc val m inv step k s' hs' (by omega)

/-- a loop over a list, by its index: what is left to do from place i on -/
theorem iter_ix {R : Type} {F : List D → (List D → Option R) → Option R} (n : Nat) (enc : Nat → List D) (val : Nat → Option R)
    (step : ∀ i, i < n → ∀ again, again (enc (i + 1)) = val (i + 1) → F (enc i) again = val i) (fin : ∀ again, F (enc n) again = val n) (k : Nat) (hk : n < k) (i : Nat) (hi : i ≤ n) : iter k F (enc i) = val i := by
  refine iter_wf enc val (fun i => n - i) (fun i => i ≤ n) (fun s hs again h => ?_) k i hi (by omega)
  rcases Nat.lt_or_ge s n with h1 | h1
  · exact step s h1 again (h (s + 1) (by omega) (by omega))
  · have : s = n := by omega
    subst this
    exact fin again

/-- a loop over a list, by what is left of it -/
theorem iter_list {R α : Type} {F : List D → (List D → Option R) → Option R} (l : List α) (enc : Nat → List D) (val : List α → Option R)
    (step : ∀ i (hi : i < l.length), ∀ again, again (enc (i + 1)) = val (l.drop (i + 1)) → F (enc i) again = val (l[i] :: l.drop (i + 1))) (fin : ∀ again, F (enc l.length) again = val []) (k : Nat) (hk : l.length < k) : iter k F (enc 0) = val l := by
  have := iter_ix (F := F) l.length enc (fun i => val (l.drop i)) (fun i hi again h => by
    rw [List.drop_eq_getElem_cons hi]; exact step i hi again h) (fun again => by rw [List.drop_length]; exact fin again) k hk 0 (by omega)
  simpa using this

/-- data of one form, as a list of what they tell -/
theorem decode_list {α : Type} {f : α → D} {Q : α → Prop} : ∀ {els : List D}, (∀ d, d ∈ els → ∃ a, d = f a ∧ Q a) → ∃ L : List α, els = L.map f ∧ ∀ a, a ∈ L → Q a
  | [], _ => ⟨[], rfl, fun a h => by cases h⟩
  | d :: els, h => by
    obtain ⟨a, rfl, hq⟩ := h d (List.mem_cons_self ..)
    obtain ⟨L, rfl, hL⟩ := decode_list (els := els) fun d hd => h d (List.mem_cons_of_mem _ hd)
    exact ⟨a :: L, rfl, fun b hb => by
      rcases List.mem_cons.1 hb with rfl | hb
      · exact hq
      · exact hL b hb⟩

/-- more rounds than any list is long -/
theorem rounds : ∃ k : Nat, 9223372036854775808 < k := ⟨_, Nat.lt_succ_self _⟩

@[simp] theorem cell_int (k : IntKind) (n : Int) : (D.int k n).cell 0 = .int k n := rfl
@[simp] theorem cell_bool (b : Bool) : (D.bool b).cell 0 = .bool b := rfl
@[simp] theorem cell_str (s : ByteArray) : (D.str s).cell 0 = .str s := rfl
@[simp] theorem cell_sl (e : TypeId) (nb : Bool) (l : List D) : (D.sl e nb l).cell 0 = .sl e nb l := rfl
@[simp] theorem cell_agg (cs : List D) (j : Nat) : (D.agg cs).cell j = cs.getD j .undef := rfl
@[simp] theorem i_int (k : IntKind) (n : Int) : (D.int k n).i = n := rfl
@[simp] theorem b_bool (b : Bool) : (D.bool b).b = b := rfl
@[simp] theorem s_str (s : ByteArray) : (D.str s).s = s := rfl
@[simp] theorem nb_sl (e : TypeId) (nb : Bool) (l : List D) : (D.sl e nb l).nb = nb := rfl
@[simp] theorem els_sl (e : TypeId) (nb : Bool) (l : List D) : (D.sl e nb l).els = l := rfl
@[simp] theorem nb_ov (e : TypeId) (nb : Bool) (l : List D) : (D.ov e nb l).nb = nb := rfl
@[simp] theorem els_ov (e : TypeId) (nb : Bool) (l : List D) : (D.ov e nb l).els = l := rfl
@[simp] theorem cs_pv (l : List D) : (D.pv l).cs = l := rfl
@[simp] theorem cs_agg (l : List D) : (D.agg l).cs = l := rfl

theorem getD_map {α : Type} {f : α → D} {l : List α} {i : Nat} (h : i < l.length) : (l.map f).getD i .undef = f l[i] := by
  simp [List.getD_eq_getElem?_getD, h]

theorem wrap64 {n : Int} (h1 : -9223372036854775808 ≤ n) (h2 : n ≤ 9223372036854775807) : IntKind.i64.wrap n = n := by
  rw [IntKind.wrap_i64]; omega


theorem cp {α : Type} {p : Prop} [Decidable p] {a b : α} (h : p) : (bif decide p then a else b) = a := by simp [h]
theorem cn {α : Type} {p : Prop} [Decidable p] {a b : α} (h : ¬ p) : (bif decide p then a else b) = b := by simp [h]
theorem cnp {α : Type} {p : Prop} [Decidable p] {a b : α} (h : p) : (bif !decide p then a else b) = b := by simp [h]
theorem cnn {α : Type} {p : Prop} [Decidable p] {a b : α} (h : ¬ p) : (bif !decide p then a else b) = a := by simp [h]
theorem ct {α : Type} {a b : α} : (bif true then a else b) = a := rfl
theorem cf {α : Type} {a b : α} : (bif false then a else b) = b := rfl
theorem beqd (a b : Int) : (a == b) = decide (a = b) := by by_cases h : a = b <;> simp [h]
theorem bned (a b : Int) : (a != b) = decide (a ≠ b) := by by_cases h : a = b <;> simp [h]
theorem c2 {i : Nat} {n : Int} (h : n = i) (h1 : n.toNat = i) : n.toNat = i := h1
theorem toNat_sub1 {i : Nat} (h : 1 ≤ i) : ((i : Int) - 1).toNat = i - 1 := by omega
theorem toNat_add1 (i : Nat) : ((i : Int) + 1).toNat = i + 1 := by omega
theorem dT {p : Prop} [Decidable p] (h : p) : decide p = true := by simp [h]
theorem dF {p : Prop} [Decidable p] (h : ¬ p) : decide p = false := by simp [h]

theorem mid {i j : Nat} (h1 : i ≤ j) (h2 : j ≤ 9223372036854775807) : IntKind.i64.wrap (Int.fdiv (IntKind.u64.wrap (IntKind.i64.wrap ((i : Int) + (j : Int)))) (2 ^ 1)) = (((i + j) / 2 : Nat) : Int) := by
  have e1 : IntKind.u64.wrap (IntKind.i64.wrap ((i : Int) + (j : Int))) = (i : Int) + j := by
    have e2 : ∀ n : Int, IntKind.u64.wrap n = n % 18446744073709551616 := fun n => by simp [IntKind.wrap, IntKind.bits, IntKind.signed]
    rw [e2, IntKind.wrap_i64]
    omega
  rw [e1, Int.fdiv_eq_ediv_of_nonneg _ (by omega)]
  rw [wrap64 (by omega) (by omega)]
  omega

theorem fitsV_cons {k : Vk} {ks : List Vk} {dd : List D} (h : fitsV (k :: ks) dd = true) : ∃ d ds, dd = d :: ds ∧ k.fits d = true ∧ fitsV ks ds = true := by
  cases dd with
  | nil => cases h
  | cons d ds => simp only [fitsV, Bool.and_eq_true] at h; exact ⟨d, ds, rfl, h.1, h.2⟩
theorem fitsV_nil {dd : List D} (h : fitsV [] dd = true) : dd = [] := by
  cases dd with
  | nil => rfl
  | cons d ds => cases h
theorem fitsL_cons {k : Sk} {ks : List Sk} {dd : List D} (h : fitsL (k :: ks) dd = true) : ∃ d ds, dd = d :: ds ∧ fits k d = true ∧ fitsL ks ds = true := by
  cases dd with
  | nil => cases h
  | cons d ds => simp only [fitsL, Bool.and_eq_true] at h; exact ⟨d, ds, rfl, h.1, h.2⟩
theorem fitsL_nil {dd : List D} (h : fitsL [] dd = true) : dd = [] := by
  cases dd with
  | nil => rfl
  | cons d ds => cases h
theorem fits_one {s : Sk} {d : D} (h : Vk.fits ⟨false, [s]⟩ d = true) : fits s d = true := by
  simpa [Vk.fits, fitsL] using h
theorem fits_agg {ks : List Sk} {d : D} (h : Vk.fits ⟨true, ks⟩ d = true) : ∃ cs, d = .agg cs ∧ fitsL ks cs = true := by
  cases d <;> simp [Vk.fits] at h
  exact ⟨_, rfl, h⟩
theorem fits_sl {e : TypeId} {d : D} (h : fits (.sl e) d = true) : ∃ nb els, d = .sl e nb els := by
  cases d <;> simp [fits] at h
  subst h; exact ⟨_, _, rfl⟩
theorem fits_int {k : IntKind} {d : D} (h : fits (.int k) d = true) : ∃ n, d = .int k n := by
  cases d <;> simp [fits] at h
  subst h; exact ⟨_, rfl⟩
theorem fits_bool {d : D} (h : fits .bool d = true) : ∃ b, d = .bool b := by
  cases d <;> simp [fits] at h
  exact ⟨_, rfl⟩
theorem fits_str {d : D} (h : fits .str d = true) : ∃ s, d = .str s := by
  cases d <;> simp [fits] at h
  exact ⟨_, rfl⟩
theorem WT.cells {ty : TypeId → Option Vk} {cs : List D} (h : WT ty (.agg cs)) : ∀ d, d ∈ cs → WT ty d := by cases h with | agg _ h => exact h
theorem WT.els {ty : TypeId → Option Vk} {e : TypeId} {nb : Bool} {els : List D} (h : WT ty (.sl e nb els)) : els.length ≤ 9223372036854775807 ∧ (nb = true → els = []) ∧ (∀ k, ty e = some k → ∀ d, d ∈ els → k.fits d = true) ∧ ∀ d, d ∈ els → WT ty d := by
  cases h with | sl _ _ _ h1 h2 h3 h4 => exact ⟨by simpa [maxLen] using h1, h2, h3, h4⟩
theorem WT.rng {ty : TypeId → Option Vk} {k : IntKind} {n : Int} (h : WT ty (.int k n)) : k.min ≤ n ∧ n ≤ k.max := by
  cases h with | int _ _ h => simpa [Lit.wf] using h
theorem WT.ssz {ty : TypeId → Option Vk} {s : ByteArray} (h : WT ty (.str s)) : s.size ≤ 9223372036854775807 := by
  cases h with | str _ h => simpa [maxLen] using h

end Go.Proofs.Ytklbnnkdkkcgoaa.GD

