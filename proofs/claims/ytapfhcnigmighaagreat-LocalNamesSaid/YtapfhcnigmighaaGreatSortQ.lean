/- The sort of the library, and the keys of a map. -/
import Derived.Test.YtapfhcnigmighaaGreatG5
import Derived.Sort.AssemblyPlain
import Derived.Sort.LotD4
import Derived.Sort.LotD5
set_option linter.unusedVariables false
set_option linter.unusedSimpArgs false
namespace Go.Proofs.YtapfhcnigmighaaGreat.GD
section
open Go Go.Sort
section
variable {α : Type} (E : α → D)
def ar (d : Array α) : List D := d.toList.map E
theorem ar_length (d : Array α) : (ar E d).length = d.size := by simp [ar]
theorem ar_of (l : List α) : ar E l.toArray = l.map E := by simp [ar]
variable [Inhabited α]
theorem ar_get {d : Array α} {i : Nat} (h : i < d.size) : (ar E d).getD i .undef = E d[i]! := by
 simp [ar, zq1, h]
theorem ar_swp (d : Array α) (i j : Nat) : ((ar E d).set i (E d[j]!)).set j (E d[i]!) = ar E (swp d i j) := by
 simp [ar, swp, List.map_set]
end
theorem sz_swp {α : Type} [Inhabited α] (d : Array α) (i j : Nat) : (swp d i j).size = d.size := by simp [swp]
section
variable {α : Type} [Inhabited α] (lt : α → α → Bool)
theorem insInner_stop {a j : Nat} {d : Array α} (h : j ≤ a) : insInner lt a j d = d := by
 cases j with
 | zero => rfl
 | succ j => unfold insInner; rw [if_neg]; simp; omega
theorem insInner_yes {a j : Nat} {d : Array α} (h : a < j) (hl : lt d[j]! d[j - 1]! = true) : insInner lt a j d = insInner lt a (j - 1) (swp d j (j - 1)) := by
 obtain ⟨j, rfl⟩ : ∃ i, j = i + 1 := ⟨j - 1, by omega⟩
 simp only [Nat.add_sub_cancel] at hl ⊢
 conv => lhs; unfold insInner
 rw [if_pos]; simp [hl]; omega
theorem insInner_no {a j : Nat} {d : Array α} (hl : lt d[j]! d[j - 1]! = false) : insInner lt a j d = d := by
 cases j with
 | zero => rfl
 | succ j => simp only [Nat.add_sub_cancel] at hl; unfold insInner; rw [if_neg]; simp [hl]
theorem insOuter_go {a b i : Nat} {d : Array α} (h : i < b) : insOuter lt a b i d = insOuter lt a b (i + 1) (insInner lt a i d) := by
 conv => lhs; unfold insOuter
 rw [if_pos h]
theorem insOuter_end {a b i : Nat} {d : Array α} (h : b ≤ i) : insOuter lt a b i d = d := by
 unfold insOuter
 rw [if_neg (by omega)]
theorem sz_insInner (a : Nat) : ∀ (j : Nat) (d : Array α), (insInner lt a j d).size = d.size
 | 0, _ => rfl
 | j + 1, d => by
  unfold insInner
  split
  · rw [sz_insInner a j, sz_swp]
  · rfl
theorem siftDown_end {hi first root : Nat} {d : Array α} (h : hi ≤ 2 * root + 1) : siftDown lt hi first root d = d := by
 unfold siftDown; rw [dif_pos h]
def child (hi first root : Nat) (d : Array α) : Nat := if 2 * root + 1 + 1 < hi ∧ lt d[first + (2 * root + 1)]! d[first + (2 * root + 1) + 1]! = true then 2 * root + 2 else 2 * root + 1
theorem siftDown_no {hi first root : Nat} {d : Array α} (h : 2 * root + 1 < hi) (hl : lt d[first + root]! d[first + child lt hi first root d]! = false) : siftDown lt hi first root d = d := by
 unfold siftDown; rw [dif_neg (by omega)]
 unfold child at hl
 by_cases c : 2 * root + 1 + 1 < hi ∧ lt d[first + (2 * root + 1)]! d[first + (2 * root + 1) + 1]! = true
 · rw [if_pos c] at hl
   rw [if_pos (by simp [c.1, c.2]), if_pos (by simp [hl])]
 · rw [if_neg c] at hl
   rw [if_neg (by simpa using c), if_pos (by simp [hl])]
theorem siftDown_yes {hi first root : Nat} {d : Array α} (h : 2 * root + 1 < hi) (hl : lt d[first + root]! d[first + child lt hi first root d]! = true) :
  siftDown lt hi first root d = siftDown lt hi first (child lt hi first root d) (swp d (first + root) (first + child lt hi first root d)) := by
 conv => lhs; unfold siftDown
 rw [dif_neg (by omega)]
 unfold child at hl ⊢
 by_cases c : 2 * root + 1 + 1 < hi ∧ lt d[first + (2 * root + 1)]! d[first + (2 * root + 1) + 1]! = true
 · rw [if_pos c] at hl ⊢
   rw [if_pos (by simp [c.1, c.2]), if_neg (by simp [hl]), dif_pos (by omega)]
 · rw [if_neg c] at hl ⊢
   rw [if_neg (by simpa using c), if_neg (by simp [hl])]
theorem child_pos {hi first root : Nat} {d : Array α} (h : 2 * root + 1 < hi) : root < child lt hi first root d ∧ child lt hi first root d < hi := by
 unfold child; split <;> omega
theorem sz_siftDown (hi first : Nat) : ∀ (n root : Nat) (d : Array α), hi - root ≤ n → (siftDown lt hi first root d).size = d.size
 | 0, root, d, h => by rw [siftDown_end]; omega
 | n + 1, root, d, h => by
  rcases Nat.lt_or_ge (2 * root + 1) hi with h1 | h1
  · cases hl : lt d[first + root]! d[first + child lt hi first root d]!
    · rw [siftDown_no lt h1 hl]
    · have := child_pos lt (first := first) (d := d) h1
      rw [siftDown_yes lt h1 hl, sz_siftDown hi first n _ _ (by omega), sz_swp]
  · rw [siftDown_end lt h1]
theorem heapBuild_succ (hi first k : Nat) (d : Array α) : heapBuild lt hi first (k + 1) d = heapBuild lt hi first k (siftDown lt hi first k d) := rfl
theorem heapPop_succ (first k : Nat) (d : Array α) : heapPop lt first (k + 1) d = heapPop lt first k (siftDown lt k first 0 (swp d first (first + k))) := rfl
theorem scanUp_yes {p : α → Bool} {d : Array α} {j i : Nat} (h : i ≤ j) (hp : p d[i]! = true) : scanUp p d j i = scanUp p d j (i + 1) := by
 conv => lhs; unfold scanUp
 rw [if_pos (by simp [h, hp])]
theorem scanUp_no {p : α → Bool} {d : Array α} {j i : Nat} (h : p d[i]! = false) : scanUp p d j i = i := by
 unfold scanUp; rw [if_neg (by simp [h])]
theorem scanUp_end {p : α → Bool} {d : Array α} {j i : Nat} (h : j < i) : scanUp p d j i = i := by
 unfold scanUp; rw [if_neg (by simp; omega)]
theorem scanDown_yes {p : α → Bool} {d : Array α} {j i : Nat} (h1 : 1 ≤ j) (h : i ≤ j) (hp : p d[j]! = true) : scanDown p d i j = scanDown p d i (j - 1) := by
 obtain ⟨j, rfl⟩ : ∃ m, j = m + 1 := ⟨j - 1, by omega⟩
 conv => lhs; unfold scanDown
 rw [if_pos (by simp [h, hp])]; rfl
theorem scanDown_no {p : α → Bool} {d : Array α} {j i : Nat} (h : p d[j]! = false) : scanDown p d i j = j := by
 cases j with
 | zero => rfl
 | succ j => unfold scanDown; rw [if_neg (by simp [h])]
theorem scanDown_end {p : α → Bool} {d : Array α} {j i : Nat} (h : j < i) : scanDown p d i j = j := by
 cases j with
 | zero => rfl
 | succ j => unfold scanDown; rw [if_neg (by simp; omega)]
theorem scanSorted_yes {d : Array α} {b i : Nat} (h : i < b) (hl : lt d[i]! d[i - 1]! = false) : scanSorted lt d b i = scanSorted lt d b (i + 1) := by
 conv => lhs; unfold scanSorted
 rw [if_pos (by simp [h, hl])]
theorem scanSorted_no {d : Array α} {b i : Nat} (h : lt d[i]! d[i - 1]! = true) : scanSorted lt d b i = i := by
 unfold scanSorted; rw [if_neg (by simp [h])]
theorem scanSorted_end {d : Array α} {b i : Nat} (h : b ≤ i) : scanSorted lt d b i = i := by
 unfold scanSorted; rw [if_neg (by simp; omega)]
theorem scanSorted_le (d : Array α) (b : Nat) : ∀ (n i : Nat), b - i ≤ n → i ≤ b → i ≤ scanSorted lt d b i ∧ scanSorted lt d b i ≤ b
 | 0, i, h, hi => by rw [scanSorted_end lt (by omega)]; omega
 | n + 1, i, h, hi => by
  rcases Nat.lt_or_ge i b with h1 | h1
  · cases hl : lt d[i]! d[i - 1]!
    · rw [scanSorted_yes lt h1 hl]; have := scanSorted_le d b n (i + 1) (by omega) (by omega); omega
    · rw [scanSorted_no lt hl]; omega
  · rw [scanSorted_end lt h1]; omega
theorem shiftDown_no {j : Nat} {d : Array α} (hl : lt d[j]! d[j - 1]! = false) : shiftDown lt j d = d := by
 cases j with
 | zero => rfl
 | succ j => simp only [Nat.add_sub_cancel] at hl; unfold shiftDown; rw [if_pos (by simp [hl])]
theorem shiftDown_yes {j : Nat} {d : Array α} (h : 1 ≤ j) (hl : lt d[j]! d[j - 1]! = true) : shiftDown lt j d = shiftDown lt (j - 1) (swp d j (j - 1)) := by
 obtain ⟨j, rfl⟩ : ∃ m, j = m + 1 := ⟨j - 1, by omega⟩
 simp only [Nat.add_sub_cancel] at hl ⊢
 conv => lhs; unfold shiftDown
 rw [if_neg (by simp [hl])]
theorem shiftUp_end {b j : Nat} {d : Array α} (h : b ≤ j) : shiftUp lt b j d = d := by
 unfold shiftUp; rw [if_neg (by omega)]
theorem shiftUp_no {b j : Nat} {d : Array α} (hl : lt d[j]! d[j - 1]! = false) : shiftUp lt b j d = d := by
 unfold shiftUp; split
 · rw [if_pos (by simp [hl])]
 · rfl
theorem shiftUp_yes {b j : Nat} {d : Array α} (h : j < b) (hl : lt d[j]! d[j - 1]! = true) : shiftUp lt b j d = shiftUp lt b (j + 1) (swp d j (j - 1)) := by
 conv => lhs; unfold shiftUp
 rw [if_pos h, if_neg (by simp [hl])]
theorem sz_shiftDown : ∀ (j : Nat) (d : Array α), (shiftDown lt j d).size = d.size
 | 0, d => rfl
 | j + 1, d => by unfold shiftDown; split; · rfl
                  · rw [sz_shiftDown j, sz_swp]
theorem sz_shiftUp (b : Nat) : ∀ (n j : Nat) (d : Array α), b - j ≤ n → (shiftUp lt b j d).size = d.size
 | 0, j, d, h => by rw [shiftUp_end]; omega
 | n + 1, j, d, h => by
  rcases Nat.lt_or_ge j b with h1 | h1
  · cases hl : lt d[j]! d[j - 1]!
    · rw [shiftUp_no lt hl]
    · rw [shiftUp_yes lt h1 hl, sz_shiftUp b n _ _ (by omega), sz_swp]
  · rw [shiftUp_end lt h1]
end
section
variable {α : Type} [Inhabited α]
theorem reverseLoop_go {i j : Nat} {d : Array α} (h : i < j) : reverseLoop i j d = reverseLoop (i + 1) (j - 1) (swp d i j) := by
 conv => lhs; unfold reverseLoop
 rw [if_pos h]
theorem reverseLoop_end {i j : Nat} {d : Array α} (h : j ≤ i) : reverseLoop i j d = d := by
 unfold reverseLoop; rw [if_neg (by omega)]
end
end
section
open Go Go.Sort
theorem wrapUm (n : Int) : IntKind.u64.wrap n = n % 18446744073709551616 := by
 simp [IntKind.wrap, IntKind.bits, IntKind.signed]
theorem wrapU {n : Int} (h1 : 0 ≤ n) (h2 : n < 18446744073709551616) : IntKind.u64.wrap n = n := by
 rw [wrapUm]; exact Int.emod_eq_of_lt h1 h2
theorem bv_nat (n : Nat) (h : n < 18446744073709551616) : (BitVec.ofInt IntKind.u64.bits (n : Int)).toNat = n := by
 show (BitVec.ofInt 64 (n : Int)).toNat = n
 simp; omega
theorem xorlt {a b : Nat} (ha : a < 18446744073709551616) (hb : b < 18446744073709551616) : a ^^^ b < 18446744073709551616 := Nat.xor_lt_two_pow (n := 64) (by simpa using ha) (by simpa using hb)
theorem xorU {a b : Nat} (ha : a < 18446744073709551616) (hb : b < 18446744073709551616) : IntKind.u64.wrap (BitVec.ofInt IntKind.u64.bits (a : Int) ^^^ BitVec.ofInt IntKind.u64.bits (b : Int)).toNat = ((a ^^^ b : Nat) : Int) := by
 rw [BitVec.toNat_xor, bv_nat a ha, bv_nat b hb]
 have : a ^^^ b < 2 ^ 64 := Nat.xor_lt_two_pow (by simpa using ha) (by simpa using hb)
 exact wrapU (by omega) (by omega)
theorem andU {a b : Nat} (ha : a < 18446744073709551616) (hb : b < 18446744073709551616) : IntKind.u64.wrap (BitVec.ofInt IntKind.u64.bits (a : Int) &&& BitVec.ofInt IntKind.u64.bits (b : Int)).toNat = ((a &&& b : Nat) : Int) := by
 rw [BitVec.toNat_and, bv_nat a ha, bv_nat b hb]
 have : a &&& b ≤ b := Nat.and_le_right
 exact wrapU (by omega) (by omega)
theorem tdivN (n : Nat) (k : Nat) : ((n : Int)).tdiv (k : Int) = ((n / k : Nat) : Int) := by
 rw [Int.tdiv_eq_ediv_of_nonneg (by omega)]; rfl
theorem fdivN (n : Nat) (k : Nat) : Int.fdiv (n : Int) ((k : Nat) : Int) = ((n / k : Nat) : Int) := by
 rw [Int.fdiv_eq_ediv_of_nonneg _ (by omega)]; rfl
set_option maxRecDepth 20000 in
theorem tabl_size : (⟨#[0, 1, 2, 2, 3, 3, 3, 3, 4, 4, 4, 4, 4, 4, 4, 4, 5, 5, 5, 5, 5, 5, 5, 5, 5, 5, 5, 5, 5, 5, 5, 5, 6, 6, 6, 6, 6, 6, 6, 6, 6, 6, 6, 6, 6, 6, 6, 6, 6, 6, 6, 6, 6, 6, 6, 6, 6, 6, 6, 6, 6, 6, 6, 6, 7, 7, 7, 7, 7, 7, 7, 7, 7, 7, 7, 7, 7, 7, 7, 7, 7, 7, 7, 7, 7, 7, 7, 7, 7, 7, 7, 7, 7, 7, 7, 7, 7, 7, 7, 7, 7, 7, 7, 7, 7, 7, 7, 7, 7, 7, 7, 7, 7, 7, 7, 7, 7, 7, 7, 7, 7, 7, 7, 7, 7, 7, 7, 7, 8, 8, 8, 8, 8, 8, 8, 8, 8, 8, 8, 8, 8, 8, 8, 8, 8, 8, 8, 8, 8, 8, 8, 8, 8, 8, 8, 8, 8, 8, 8, 8, 8, 8, 8, 8, 8, 8, 8, 8, 8, 8, 8, 8, 8, 8, 8, 8, 8, 8, 8, 8, 8, 8, 8, 8, 8, 8, 8, 8, 8, 8, 8, 8, 8, 8, 8, 8, 8, 8, 8, 8, 8, 8, 8, 8, 8, 8, 8, 8, 8, 8, 8, 8, 8, 8, 8, 8, 8, 8, 8, 8, 8, 8, 8, 8, 8, 8, 8, 8, 8, 8, 8, 8, 8, 8, 8, 8, 8, 8, 8, 8, 8, 8, 8, 8, 8, 8, 8, 8, 8, 8, 8, 8, 8, 8, 8, 8]⟩ : ByteArray).size = 256 := by rfl
theorem tabl (n : Nat) (h : n < 256) : (((⟨#[0, 1, 2, 2, 3, 3, 3, 3, 4, 4, 4, 4, 4, 4, 4, 4, 5, 5, 5, 5, 5, 5, 5, 5, 5, 5, 5, 5, 5, 5, 5, 5, 6, 6, 6, 6, 6, 6, 6, 6, 6, 6, 6, 6, 6, 6, 6, 6, 6, 6, 6, 6, 6, 6, 6, 6, 6, 6, 6, 6, 6, 6, 6, 6, 7, 7, 7, 7, 7, 7, 7, 7, 7, 7, 7, 7, 7, 7, 7, 7, 7, 7, 7, 7, 7, 7, 7, 7, 7, 7, 7, 7, 7, 7, 7, 7, 7, 7, 7, 7, 7, 7, 7, 7, 7, 7, 7, 7, 7, 7, 7, 7, 7, 7, 7, 7, 7, 7, 7, 7, 7, 7, 7, 7, 7, 7, 7, 7, 8, 8, 8, 8, 8, 8, 8, 8, 8, 8, 8, 8, 8, 8, 8, 8, 8, 8, 8, 8, 8, 8, 8, 8, 8, 8, 8, 8, 8, 8, 8, 8, 8, 8, 8, 8, 8, 8, 8, 8, 8, 8, 8, 8, 8, 8, 8, 8, 8, 8, 8, 8, 8, 8, 8, 8, 8, 8, 8, 8, 8, 8, 8, 8, 8, 8, 8, 8, 8, 8, 8, 8, 8, 8, 8, 8, 8, 8, 8, 8, 8, 8, 8, 8, 8, 8, 8, 8, 8, 8, 8, 8, 8, 8, 8, 8, 8, 8, 8, 8, 8, 8, 8, 8, 8, 8, 8, 8, 8, 8, 8, 8, 8, 8, 8, 8, 8, 8, 8, 8, 8, 8, 8, 8, 8, 8, 8, 8]⟩ : ByteArray).get! n).toNat : Nat) = bitsLen n := by
 have h2 : ∀ n : Fin 256, ((⟨#[0, 1, 2, 2, 3, 3, 3, 3, 4, 4, 4, 4, 4, 4, 4, 4, 5, 5, 5, 5, 5, 5, 5, 5, 5, 5, 5, 5, 5, 5, 5, 5, 6, 6, 6, 6, 6, 6, 6, 6, 6, 6, 6, 6, 6, 6, 6, 6, 6, 6, 6, 6, 6, 6, 6, 6, 6, 6, 6, 6, 6, 6, 6, 6, 7, 7, 7, 7, 7, 7, 7, 7, 7, 7, 7, 7, 7, 7, 7, 7, 7, 7, 7, 7, 7, 7, 7, 7, 7, 7, 7, 7, 7, 7, 7, 7, 7, 7, 7, 7, 7, 7, 7, 7, 7, 7, 7, 7, 7, 7, 7, 7, 7, 7, 7, 7, 7, 7, 7, 7, 7, 7, 7, 7, 7, 7, 7, 7, 8, 8, 8, 8, 8, 8, 8, 8, 8, 8, 8, 8, 8, 8, 8, 8, 8, 8, 8, 8, 8, 8, 8, 8, 8, 8, 8, 8, 8, 8, 8, 8, 8, 8, 8, 8, 8, 8, 8, 8, 8, 8, 8, 8, 8, 8, 8, 8, 8, 8, 8, 8, 8, 8, 8, 8, 8, 8, 8, 8, 8, 8, 8, 8, 8, 8, 8, 8, 8, 8, 8, 8, 8, 8, 8, 8, 8, 8, 8, 8, 8, 8, 8, 8, 8, 8, 8, 8, 8, 8, 8, 8, 8, 8, 8, 8, 8, 8, 8, 8, 8, 8, 8, 8, 8, 8, 8, 8, 8, 8, 8, 8, 8, 8, 8, 8, 8, 8, 8, 8, 8, 8, 8, 8, 8, 8, 8, 8]⟩ : ByteArray).get! n.1).toNat = bitsLen n.1 := by decide +kernel
 exact h2 ⟨n, h⟩
end
end Go.Proofs.YtapfhcnigmighaaGreat.GD
