/- A value-level interpreter of the translated code, with the proof that it is sound: part 4. -/
import Derived.Test.YtomlgapciogbdaaG3
namespace Go.Proofs.Ytomlgapciogbdaa.GD
open Go
set_option linter.unusedVariables false
set_option linter.unusedSimpArgs false

def eqK : IntKind → IntKind → Bool := fun a b => decide (a = b)
def eqBytes : List UInt8 → List UInt8 → Bool
  | [], [] => true
  | a :: l, b :: m => Nat.beq a.toNat b.toNat && eqBytes l m
  | _, _ => false

theorem eqBytes_eq : ∀ {a b : List UInt8}, eqBytes a b = true → a = b
  | [], [], _ => rfl
  | a :: l, b :: m, h => by
    simp only [eqBytes, Bool.and_eq_true] at h
    rw [eqBytes_eq h.2, UInt8.toNat_inj.1 (Nat.eq_of_beq_eq_true h.1)]
  | [], _ :: _, h => by cases h
  | _ :: _, [], h => by cases h

def eqInt : Int → Int → Bool
  | .ofNat a, .ofNat b => Nat.beq a b
  | .negSucc a, .negSucc b => Nat.beq a b
  | _, _ => false
theorem eqInt_eq {a b : Int} (h : eqInt a b = true) : a = b := by
  cases a <;> cases b <;> simp [eqInt] at h <;> subst h <;> rfl

def eqBool : Bool → Bool → Bool
  | true, true => true
  | false, false => true
  | _, _ => false

mutual
def eqD (a : D) (b : D) : Bool := match a, b with
  | .undef, .undef => true
  | .int k n, .int k' n' => eqK k k' && eqInt n n'
  | .bool b, .bool b' => eqBool b b'
  | .str s, .str s' => eqBytes s.data.toList s'.data.toList
  | .sl e nb els, .sl e' nb' els' => Nat.beq e e' && eqBool nb nb' && eqDs els els'
  | .zs e nb, .zs e' nb' => Nat.beq e e' && eqBool nb nb'
  | .agg cs, .agg cs' => eqDs cs cs'
  | .fn g caps, .fn g' caps' => Nat.beq g g' && eqDs caps caps'
  | .nilfn, .nilfn => true
  | .rp cs off, .rp cs' off' => Nat.beq off off' && eqDs cs cs'
  | .tup ds, .tup ds' => eqDs ds ds'
  | .ov e nb els, .ov e' nb' els' => Nat.beq e e' && eqBool nb nb' && eqDs els els'
  | .pv cs, .pv cs' => eqDs cs cs'
  | _, _ => false
def eqDs (a : List D) (b : List D) : Bool := match a, b with
  | [], [] => true
  | x :: xs, y :: ys => eqD x y && eqDs xs ys
  | _, _ => false
end

theorem eqBool_eq {a b : Bool} (h : eqBool a b = true) : a = b := by cases a <;> cases b <;> first | rfl | cases h

mutual
theorem eqD_eq (a : D) (b : D) (h : eqD a b = true) : a = b := by
  cases a <;> cases b <;> simp only [eqD, Bool.and_eq_true, Bool.false_eq_true] at h
  case undef.undef => rfl
  case nilfn.nilfn => rfl
  case int.int => simp only [eqK, decide_eq_true_eq] at h; rw [h.1, eqInt_eq h.2]
  case bool.bool => rw [eqBool_eq h]
  case str.str s s' =>
    have := eqBytes_eq h
    obtain ⟨⟨l⟩⟩ := s
    obtain ⟨⟨m⟩⟩ := s'
    simp at this
    rw [this]
  case sl.sl => rw [Nat.eq_of_beq_eq_true h.1.1, eqBool_eq h.1.2, eqDs_eq _ _ h.2]
  case zs.zs => rw [Nat.eq_of_beq_eq_true h.1, eqBool_eq h.2]
  case agg.agg => rw [eqDs_eq _ _ h]
  case fn.fn => rw [Nat.eq_of_beq_eq_true h.1, eqDs_eq _ _ h.2]
  case rp.rp => rw [Nat.eq_of_beq_eq_true h.1, eqDs_eq _ _ h.2]
  case tup.tup => rw [eqDs_eq _ _ h]
  case ov.ov => rw [Nat.eq_of_beq_eq_true h.1.1, eqBool_eq h.1.2, eqDs_eq _ _ h.2]
  case pv.pv => rw [eqDs_eq _ _ h]
theorem eqDs_eq (a : List D) (b : List D) (h : eqDs a b = true) : a = b := by
  cases a <;> cases b <;> simp only [eqDs, Bool.and_eq_true, Bool.false_eq_true] at h
  case nil.nil => rfl
  case cons.cons => rw [eqD_eq _ _ h.1, eqDs_eq _ _ h.2]
end

abbrev Row := FuncId × List D × List D

def lookC : List Row → FuncId → List D → Option (List D)
  | [], _, _ => none
  | (g', l', r') :: t, g, l => match Nat.beq g' g && eqDs l' l with
    | true => some r'
    | false => lookC t g l

def AllEv (ty : TypeId → Option Vk) (tab : FuncId → Option Entry) : List Row → Prop
  | [] => True
  | (g, l, r) :: t => Ev ty tab g l r ∧ AllEv ty tab t

theorem lookC_ok {ty : TypeId → Option Vk} {tab : FuncId → Option Entry} : ∀ {t : List Row}, AllEv ty tab t → ∀ g l r, lookC t g l = some r → Ev ty tab g l r
  | [], _, g, l, r, h => by cases h
  | (g', l', r') :: t, h, g, l, r, hl => by
    unfold lookC at hl
    split at hl
    · rename_i hb
      simp only [Bool.and_eq_true] at hb
      cases hl
      rw [← Nat.eq_of_beq_eq_true hb.1, ← eqDs_eq _ _ hb.2]
      exact h.1
    · exact lookC_ok h.2 g l r hl

theorem Ev.row {ty : TypeId → Option Vk} {tab : FuncId → Option Entry} {g : FuncId} {f : DFun} (hg : tab g = some (.code f)) {l r : List D} (t : List Row) (ht : AllEv ty tab t) (k : Nat) (he : dbody f (envOf ty tab (lookC t)) k l = some r) : Ev ty tab g l r :=
  Ev.by hg (lookC t) (lookC_ok ht) k he

end Go.Proofs.Ytomlgapciogbdaa.GD

namespace Go.Proofs.Ytomlgapciogbdaa.GD
open Go
set_option linter.unusedVariables false
set_option linter.unusedSimpArgs false

section
variable {ty : TypeId → Option Vk} {tab : FuncId → Option Entry}

theorem cl_body {g : FuncId} {f : DFun} (hg : tab g = some (.code f)) {l r : List D} (k : Nat) (he : dbody f (envOf ty tab (Cl ty tab)) k l = some r) : Cl ty tab g l = some r := Cl_eq.2 (Ev.body hg k he)

theorem lawTrue_of {g : FuncId} {ks : List Vk} (h : ∀ dd : List D, fitsV ks dd = true → (∀ d, d ∈ dd → WT ty d) → Cl ty tab g dd = some [.bool true]) : LawTrue ty tab g ks :=
  fun dd h1 h2 => Cl_eq.1 (h dd h1 h2)
end

/-- a loop: from state s on it gives val s -/
theorem iter_wf {R σ : Type} {F : List D → (List D → Option R) → Option R} (enc : σ → List D) (val : σ → Option R) (m : σ → Nat) (inv : σ → Prop)
    (step : ∀ s, inv s → ∀ again, (∀ s', inv s' → m s' < m s → again (enc s') = val s') → F (enc s) again = val s) : ∀ (k : Nat) (s : σ), inv s → m s < k → iter k F (enc s) = val s
  | 0, s, _, hk => by omega
  | k + 1, s, hs, hk => by
    unfold iter
    exact step s hs _ fun s' hs' hm => iter_wf enc val m inv step k s' hs' (by omega)

/-- a loop over a list, by its index: what is left to do from place i on -/
theorem iter_ix {R : Type} {F : List D → (List D → Option R) → Option R} (n : Nat) (enc : Nat → List D) (val : Nat → Option R)
    (step : ∀ i, i < n → ∀ again, again (enc (i + 1)) = val (i + 1) → F (enc i) again = val i) (fin : ∀ again, F (enc n) again = val n) (k : Nat) (hk : n < k) (i : Nat) (hi : i ≤ n) : iter k F (enc i) = val i := by
  refine iter_wf enc val (fun i => n - i) (fun i => i ≤ n) (fun s hs again h => ?_) k i hi (by omega)
  rcases Nat.lt_or_ge s n with h1 | h1
  · exact step s h1 again (h (s + 1) (by omega) (by omega))
  · have : s = n := by omega
    subst this
    exact fin again

/-- a loop over a list, by what is left of it -/
theorem iter_list {R α : Type} {F : List D → (List D → Option R) → Option R} (l : List α) (enc : Nat → List D) (val : List α → Option R)
    (step : ∀ i (hi : i < l.length), ∀ again, again (enc (i + 1)) = val (l.drop (i + 1)) → F (enc i) again = val (l[i] :: l.drop (i + 1))) (fin : ∀ again, F (enc l.length) again = val []) (k : Nat) (hk : l.length < k) : iter k F (enc 0) = val l := by
  have := iter_ix (F := F) l.length enc (fun i => val (l.drop i)) (fun i hi again h => by
    rw [List.drop_eq_getElem_cons hi]; exact step i hi again h) (fun again => by rw [List.drop_length]; exact fin again) k hk 0 (by omega)
  simpa using this

/-- data of one form, as a list of what they tell -/
theorem decode_list {α : Type} {f : α → D} {Q : α → Prop} : ∀ {els : List D}, (∀ d, d ∈ els → ∃ a, d = f a ∧ Q a) → ∃ L : List α, els = L.map f ∧ ∀ a, a ∈ L → Q a
  | [], _ => ⟨[], rfl, fun a h => by cases h⟩
  | d :: els, h => by
    obtain ⟨a, rfl, hq⟩ := h d (List.mem_cons_self ..)
    obtain ⟨L, rfl, hL⟩ := decode_list (els := els) fun d hd => h d (List.mem_cons_of_mem _ hd)
    exact ⟨a :: L, rfl, fun b hb => by
      rcases List.mem_cons.1 hb with rfl | hb
      · exact hq
      · exact hL b hb⟩

/-- more rounds than any list is long -/
theorem rounds : ∃ k : Nat, 9223372036854775808 < k := ⟨_, Nat.lt_succ_self _⟩

@[simp] theorem cell_int (k : IntKind) (n : Int) : (D.int k n).cell 0 = .int k n := rfl
@[simp] theorem cell_bool (b : Bool) : (D.bool b).cell 0 = .bool b := rfl
@[simp] theorem cell_str (s : ByteArray) : (D.str s).cell 0 = .str s := rfl
@[simp] theorem cell_sl (e : TypeId) (nb : Bool) (l : List D) : (D.sl e nb l).cell 0 = .sl e nb l := rfl
@[simp] theorem cell_agg (cs : List D) (j : Nat) : (D.agg cs).cell j = cs.getD j .undef := rfl
@[simp] theorem i_int (k : IntKind) (n : Int) : (D.int k n).i = n := rfl
@[simp] theorem b_bool (b : Bool) : (D.bool b).b = b := rfl
@[simp] theorem s_str (s : ByteArray) : (D.str s).s = s := rfl
@[simp] theorem nb_sl (e : TypeId) (nb : Bool) (l : List D) : (D.sl e nb l).nb = nb := rfl
@[simp] theorem els_sl (e : TypeId) (nb : Bool) (l : List D) : (D.sl e nb l).els = l := rfl
@[simp] theorem nb_ov (e : TypeId) (nb : Bool) (l : List D) : (D.ov e nb l).nb = nb := rfl
@[simp] theorem els_ov (e : TypeId) (nb : Bool) (l : List D) : (D.ov e nb l).els = l := rfl
@[simp] theorem cs_pv (l : List D) : (D.pv l).cs = l := rfl
@[simp] theorem cs_agg (l : List D) : (D.agg l).cs = l := rfl

theorem getD_map {α : Type} {f : α → D} {l : List α} {i : Nat} (h : i < l.length) : (l.map f).getD i .undef = f l[i] := by
  simp [List.getD_eq_getElem?_getD, h]

def eqC : D → D → Bool
  | .int _ a, .int _ b => a == b
  | .bool a, .bool b => a == b
  | .str a, .str b => a.toList == b.toList
  | _, _ => true
/-- are cells alike -/
def eqCells : List D → List D → Bool
  | [x], [y] => eqC x y
  | x :: xs, y :: ys => eqC x y && eqCells xs ys
  | _, _ => true

theorem wrap64 {n : Int} (h1 : -9223372036854775808 ≤ n) (h2 : n ≤ 9223372036854775807) : IntKind.i64.wrap n = n := by
  rw [IntKind.wrap_i64]; omega


theorem cp {α : Type} {p : Prop} [Decidable p] {a b : α} (h : p) : (bif decide p then a else b) = a := by simp [h]
theorem cn {α : Type} {p : Prop} [Decidable p] {a b : α} (h : ¬ p) : (bif decide p then a else b) = b := by simp [h]
theorem cnp {α : Type} {p : Prop} [Decidable p] {a b : α} (h : p) : (bif !decide p then a else b) = b := by simp [h]
theorem cnn {α : Type} {p : Prop} [Decidable p] {a b : α} (h : ¬ p) : (bif !decide p then a else b) = a := by simp [h]
theorem ct {α : Type} {a b : α} : (bif true then a else b) = a := rfl
theorem cf {α : Type} {a b : α} : (bif false then a else b) = b := rfl
theorem beqd (a b : Int) : (a == b) = decide (a = b) := by by_cases h : a = b <;> simp [h]
theorem bned (a b : Int) : (a != b) = decide (a ≠ b) := by by_cases h : a = b <;> simp [h]
theorem c2 {i : Nat} {n : Int} (h : n = i) (h1 : n.toNat = i) : n.toNat = i := h1
theorem toNat_sub1 {i : Nat} (h : 1 ≤ i) : ((i : Int) - 1).toNat = i - 1 := by omega
theorem toNat_add1 (i : Nat) : ((i : Int) + 1).toNat = i + 1 := by omega
theorem dT {p : Prop} [Decidable p] (h : p) : decide p = true := by simp [h]
theorem dF {p : Prop} [Decidable p] (h : ¬ p) : decide p = false := by simp [h]

theorem mid {i j : Nat} (h1 : i ≤ j) (h2 : j ≤ 9223372036854775807) : IntKind.i64.wrap (Int.fdiv (IntKind.u64.wrap (IntKind.i64.wrap ((i : Int) + (j : Int)))) (2 ^ 1)) = (((i + j) / 2 : Nat) : Int) := by
  have e1 : IntKind.u64.wrap (IntKind.i64.wrap ((i : Int) + (j : Int))) = (i : Int) + j := by
    have e2 : ∀ n : Int, IntKind.u64.wrap n = n % 18446744073709551616 := fun n => by simp [IntKind.wrap, IntKind.bits, IntKind.signed]
    rw [e2, IntKind.wrap_i64]
    omega
  rw [e1, Int.fdiv_eq_ediv_of_nonneg _ (by omega)]
  rw [wrap64 (by omega) (by omega)]
  omega

theorem fitsV_cons {k : Vk} {ks : List Vk} {dd : List D} (h : fitsV (k :: ks) dd = true) : ∃ d ds, dd = d :: ds ∧ k.fits d = true ∧ fitsV ks ds = true := by
  cases dd with
  | nil => cases h
  | cons d ds => simp only [fitsV, Bool.and_eq_true] at h; exact ⟨d, ds, rfl, h.1, h.2⟩
theorem fitsV_nil {dd : List D} (h : fitsV [] dd = true) : dd = [] := by
  cases dd with
  | nil => rfl
  | cons d ds => cases h
theorem fitsL_cons {k : Sk} {ks : List Sk} {dd : List D} (h : fitsL (k :: ks) dd = true) : ∃ d ds, dd = d :: ds ∧ fits k d = true ∧ fitsL ks ds = true := by
  cases dd with
  | nil => cases h
  | cons d ds => simp only [fitsL, Bool.and_eq_true] at h; exact ⟨d, ds, rfl, h.1, h.2⟩
theorem fitsL_nil {dd : List D} (h : fitsL [] dd = true) : dd = [] := by
  cases dd with
  | nil => rfl
  | cons d ds => cases h
theorem fits_one {s : Sk} {d : D} (h : Vk.fits ⟨false, [s]⟩ d = true) : fits s d = true := by
  simpa [Vk.fits, fitsL] using h
theorem fits_agg {ks : List Sk} {d : D} (h : Vk.fits ⟨true, ks⟩ d = true) : ∃ cs, d = .agg cs ∧ fitsL ks cs = true := by
  cases d <;> simp [Vk.fits] at h
  exact ⟨_, rfl, h⟩
theorem fits_sl {e : TypeId} {d : D} (h : fits (.sl e) d = true) : ∃ nb els, d = .sl e nb els := by
  cases d <;> simp [fits] at h
  subst h; exact ⟨_, _, rfl⟩
theorem fits_int {k : IntKind} {d : D} (h : fits (.int k) d = true) : ∃ n, d = .int k n := by
  cases d <;> simp [fits] at h
  subst h; exact ⟨_, rfl⟩
theorem fits_bool {d : D} (h : fits .bool d = true) : ∃ b, d = .bool b := by
  cases d <;> simp [fits] at h
  exact ⟨_, rfl⟩
theorem fits_str {d : D} (h : fits .str d = true) : ∃ s, d = .str s := by
  cases d <;> simp [fits] at h
  exact ⟨_, rfl⟩
theorem WT.cells {ty : TypeId → Option Vk} {cs : List D} (h : WT ty (.agg cs)) : ∀ d, d ∈ cs → WT ty d := by cases h with | agg _ h => exact h
theorem WT.els {ty : TypeId → Option Vk} {e : TypeId} {nb : Bool} {els : List D} (h : WT ty (.sl e nb els)) : els.length ≤ 9223372036854775807 ∧ (nb = true → els = []) ∧ (∀ k, ty e = some k → ∀ d, d ∈ els → k.fits d = true) ∧ ∀ d, d ∈ els → WT ty d := by
  cases h with | sl _ _ _ h1 h2 h3 h4 => exact ⟨by simpa [maxLen] using h1, h2, h3, h4⟩
theorem WT.rng {ty : TypeId → Option Vk} {k : IntKind} {n : Int} (h : WT ty (.int k n)) : k.min ≤ n ∧ n ≤ k.max := by
  cases h with | int _ _ h => simpa [Lit.wf] using h
theorem WT.ssz {ty : TypeId → Option Vk} {s : ByteArray} (h : WT ty (.str s)) : s.size ≤ 9223372036854775807 := by
  cases h with | str _ h => simpa [maxLen] using h

theorem getD_get {l : List D} {i : Nat} (h : i < l.length) : l.getD i .undef = l[i] := by simp [List.getD_eq_getElem?_getD, h]

theorem eta_of {s : Sk} {d : D} (h : fits s d = true) : eta s d = d := by
  cases s <;> cases d <;> simp [fits] at h <;> first | (subst h; rfl) | rfl

theorem fits_eta (s : Sk) (d : D) : fits s (eta s d) = true := by cases s <;> simp [eta, fits]

theorem fitsL_eta : ∀ (ks : List Sk) (d : D) (j : Nat), fitsL ks (etaCells ks d j) = true
  | [], _, _ => rfl
  | k :: ks, d, j => by simp only [etaCells, fitsL, fits_eta, fitsL_eta ks d (j + 1), Bool.and_self]

theorem etaCells_of : ∀ (ks : List Sk) (cs pre : List D), fitsL ks cs = true → etaCells ks (.agg (pre ++ cs)) pre.length = cs
  | [], cs, pre, h => (fitsL_nil h).symm
  | k :: ks, cs, pre, h => by
    obtain ⟨d, ds, rfl, h1, h2⟩ := fitsL_cons h
    have := etaCells_of ks ds (pre ++ [d]) h2
    rw [List.append_assoc, List.singleton_append, List.length_append, List.length_singleton] at this
    have e : (D.agg (pre ++ d :: ds)).cell pre.length = d := by simp [D.cell, List.getD_eq_getElem?_getD]
    rw [etaCells, e, eta_of h1, this]

theorem etaList_of : ∀ (ks : List Sk) (cs pre : List D), fitsL ks cs = true → etaList ks (pre ++ cs) pre.length = cs
  | [], cs, pre, h => (fitsL_nil h).symm
  | k :: ks, cs, pre, h => by
    obtain ⟨d, ds, rfl, h1, h2⟩ := fitsL_cons h
    have := etaList_of ks ds (pre ++ [d]) h2
    rw [List.append_assoc, List.singleton_append, List.length_append, List.length_singleton] at this
    have e : (pre ++ d :: ds).getD pre.length .undef = d := by simp [List.getD_eq_getElem?_getD]
    rw [etaList, e, eta_of h1, this]

theorem eta_fit {ks : List Sk} {d : D} (h : Vk.fits ⟨true, ks⟩ d = true) : D.agg (etaCells ks d 0) = d := by
  obtain ⟨cs, rfl, h⟩ := fits_agg h
  rw [show etaCells ks (.agg cs) 0 = cs from etaCells_of ks cs [] h]

theorem etaList_eta (ks : List Sk) (d : D) (j : Nat) : etaList ks (etaCells ks d j) 0 = etaCells ks d j := etaList_of ks _ [] (fitsL_eta ks d j)

/-- are lists of cells that lead to no memory alike -/
theorem eqCells_refl : ∀ (l : List D), eqCells l l = true
  | [] => rfl
  | [x] => by cases x <;> simp [eqCells, eqC]
  | x :: y :: l => by
    have := eqCells_refl (y :: l)
    simp only [eqCells, this, Bool.and_true]
    cases x <;> simp [eqC]

theorem eqCells_int {k : IntKind} : ∀ (l m : List D) (n : Nat), fitsL (List.replicate n (.int k)) l = true → fitsL (List.replicate n (.int k)) m = true → (eqCells l m = true ↔ l = m)
  | l, m, 0, h1, h2 => by rw [fitsL_nil h1, fitsL_nil h2]; simp [eqCells]
  | l, m, n + 1, h1, h2 => by
    rw [List.replicate_succ] at h1 h2
    obtain ⟨x, l, rfl, a1, a2⟩ := fitsL_cons h1
    obtain ⟨y, m, rfl, b1, b2⟩ := fitsL_cons h2
    obtain ⟨i, rfl⟩ := fits_int a1
    obtain ⟨j, rfl⟩ := fits_int b1
    have ih := eqCells_int l m n a2 b2
    have hl := (fitsL_spec a2).1
    have hm := (fitsL_spec b2).1
    cases l with
    | nil =>
      cases m with
      | nil => simp [eqCells, eqC]
      | cons z m => simp at hl hm; omega
    | cons w l =>
      cases m with
      | nil => simp at hl hm; omega
      | cons z m =>
        simp only [eqCells, Bool.and_eq_true, ih, eqC, beq_iff_eq, List.cons.injEq, D.int.injEq, true_and]

/-! the order of strings -/
theorem bl_irrefl : ∀ (a : List UInt8), Op.bytesLess a a = false
  | [] => rfl
  | x :: a => by simp [Op.bytesLess, bl_irrefl a]
theorem bl_trans : ∀ {a b c : List UInt8}, Op.bytesLess a b = true → Op.bytesLess b c = true → Op.bytesLess a c = true
  | _, [], _, h, _ => by cases ‹List UInt8› <;> simp [Op.bytesLess] at h
  | _, _ :: _, [], _, h => by simp [Op.bytesLess] at h
  | [], _ :: _, _ :: _, _, _ => rfl
  | x :: a, y :: b, z :: c, h1, h2 => by
    simp only [Op.bytesLess, Bool.or_eq_true, decide_eq_true_eq, Bool.and_eq_true, beq_iff_eq] at h1 h2 ⊢
    rcases h1 with h1 | ⟨rfl, h1⟩
    · rcases h2 with h2 | ⟨rfl, h2⟩
      · exact .inl (UInt8.lt_trans h1 h2)
      · exact .inl h1
    · rcases h2 with h2 | ⟨rfl, h2⟩
      · exact .inl h2
      · exact .inr ⟨rfl, bl_trans h1 h2⟩
theorem bl_tri : ∀ (a b : List UInt8), Op.bytesLess a b = false → Op.bytesLess b a = false → a = b
  | [], [], _, _ => rfl
  | [], _ :: _, h, _ => by simp [Op.bytesLess] at h
  | _ :: _, [], _, h => by simp [Op.bytesLess] at h
  | x :: a, y :: b, h1, h2 => by
    simp only [Op.bytesLess, Bool.or_eq_false_iff, decide_eq_false_iff_not, Bool.and_eq_false_imp, beq_iff_eq] at h1 h2
    have e : x = y := by
      rcases UInt8.lt_or_lt_of_ne (a := x) (b := y) |> fun f => Classical.em (x = y) with h | h
      · exact h
      · rcases UInt8.lt_or_lt_of_ne h with h | h
        · exact absurd h h1.1
        · exact absurd h h2.1
    subst e
    rw [bl_tri a b (h1.2 rfl) (h2.2 rfl)]
theorem bl_asymm {a b : List UInt8} (h : Op.bytesLess a b = true) : Op.bytesLess b a = false := by
  cases h2 : Op.bytesLess b a with
  | false => rfl
  | true => have := bl_trans h h2; rw [bl_irrefl] at this; cases this

end Go.Proofs.Ytomlgapciogbdaa.GD

