/- A value-level interpreter of the translated code, with the proof that it is sound: part 4. -/
import Derived.Test.YtmfhhbiaghejjaaG3
namespace Go.Proofs.Ytmfhhbiaghejjaa.GD
open Go Go.ChangeShapes Go.RowKit
set_option linter.unusedVariables false
set_option linter.unusedSimpArgs false

theorem parOk_spec {P : Program} {ty : TypeId → Option Vk} {t : TypeId} {k : Vk} (h : parOk P ty t k = true) :
    ksOf P 20 t = some k.ks ∧ isAggT P t = some k.agg ∧ P.cellsOf t = k.ks.length ∧ clo ty k.ks ∧ P.readableRec t = true ∧ t < P.types.size := by
  simp only [parOk, Bool.and_eq_true, beq_iff_eq, Nat.blt_eq] at h
  obtain ⟨⟨⟨⟨⟨h1, h2⟩, h3⟩, h4⟩, h5⟩, h6⟩ := h
  exact ⟨h1, h2, h3, clo_of h4, h5, h6⟩

theorem told_args {H : Type} {enc : TypeId × Value → H} {P : Program} {ty : TypeId → Option Vk} {W : World} {base : Nat} (hl : laidOutB P = true) (hty : KsOk P ty) :
    ∀ (ts : List TypeId) (ks : List Vk) (vs : List Value) (ds : List (DataW H)) (ps : List MemPlace), parsOk P ty ts ks = true → DataW.TrodAll enc P W 0 (fun _ => true) true ts vs ds ps →
      (∀ (j : Nat) t v, ts[j]? = some t → vs[j]? = some v → Value.okWide P W .any base t v) →
      ∃ dd : List D, fitsV ks dd = true ∧ vs.length = ks.length ∧ dd.length = ks.length ∧ ds.length = ks.length ∧ (∀ d, d ∈ dd → WT ty d) ∧
        (∀ i, i < ks.length → pureD (dd.getD i .undef) = true ∧ RepV ty W (fun b => b < W.heap.size) (vs.getD i undef) (dd.getD i .undef)) ∧
        ∀ W', Below W.heap.size W W' → DataW.TrodAll enc P W' 0 (fun b => decide (b < W.heap.size)) true ts vs ds ps
  | [], ks, vs, ds, ps, hp, h, _ => by
    obtain ⟨rfl, rfl, rfl⟩ := trodAll_nil h
    cases ks with
    | cons k ks => simp [parsOk] at hp
    | nil => exact ⟨[], rfl, rfl, rfl, rfl, (fun d hd => by cases hd), (fun i hi => by simp at hi), fun W' _ => trodAll_mk0⟩
  | t :: ts, ks, vs, ds, ps, hp, h, hok => by
    obtain ⟨v, vs', d, ds', p, q, rfl, rfl, rfl, h1, h2⟩ := trodAll_cons h
    cases ks with
    | nil => simp [parsOk] at hp
    | cons k ks =>
      simp only [parsOk, Bool.and_eq_true] at hp
      obtain ⟨k1, k2, k3, k4, k5, k6⟩ := parOk_spec hp.1
      obtain ⟨dd, r1, r2, r3, r4, r5, r6, r7⟩ := told_args hl hty ts ks vs' ds' q hp.2 h2 fun j t v a b => hok (j + 1) t v a b
      obtain ⟨fuel, hf⟩ := h1
      have hone : k.agg = false → k.ks.length = 1 := fun hka => isAgg_one k1 (by rw [k2, hka])
      have told := trod_told hty rfl fuel 20 t k.ks _ _ k1 k3 k4 hf
      obtain ⟨x, x1, x2, x3, x4⟩ := told_arg k2 hone (hok 0 t v rfl rfl) told
      refine ⟨x :: dd, by simp [fitsV, x1, r1], by simp [r2], by simp [r3], by simp [r4], fun d hd => ?_, fun i hi => ?_, fun W' hb => ?_⟩
      · rcases List.mem_cons.1 hd with rfl | hd
        · exact x3
        · exact r5 d hd
      · cases i with
        | zero => exact ⟨x2, x4⟩
        | succ i => simpa using r6 i (by simpa using hi)
      · exact trodAll_cons_mk (Below.trod hl k5 k6 ⟨fuel, hf⟩ hb (fun y hy => DataW.trod_lt fuel _ _ _ hf y hy)) (r7 W' hb)

/-- what a law's proof owes -/
def LawTrue (ty : TypeId → Option Vk) (tab : FuncId → Option Entry) (g : FuncId) (ks : List Vk) : Prop :=
  ∀ dd : List D, fitsV ks dd = true → (∀ d, d ∈ dd → WT ty d) → ∃ k, dcall ty tab k g dd = some [.bool true]

theorem law_returns {C : Checked} {os : Os} {ty : TypeId → Option Vk} {tab : FuncId → Option Entry} {f : FuncId} {fn : Func} {s : ChangeSpec} {ks : List Vk} {en : Entry} {tb : TypeId}
    (hl : laidOutB C.prog = true) (htab : TabOk C.prog ty tab) (hty : KsOk C.prog ty) (own : ownKnob C.prog.godebug = none) (started : os.Started) (noInit : C.prog.inits.idxOf? f = none) (hfn : C.prog.funcs[f]? = some fn)
    (hpar : parsOk C.prog ty fn.params.toList ks = true) (hres : fn.resultTypes = #[tb]) (hb : C.prog.underlying tb = some .bool) (hvars : s.vars = [])
    (hspec : ∀ (H : Type) (ds : List (DataW H)), ds.length = ks.length → s.fn H ds = { results := [.lit (.bool true)], args := ds })
    (hg : tab f = some en) (ham : en.sig.am = List.replicate ks.length .p) (hrm : en.sig.rm = [.p ⟨false, [.bool]⟩]) (law : LawTrue ty tab f ks)
    {H : Type} {enc : TypeId × Value → H}
    (witness : ∃ (w : World) (tape : Tape) (i : Input), w.os = os ∧ (w.forCall tape i).Shaped C.prog ∧ i.vars = [] ∧ Input.okWide C.prog (w.forCall tape i) .any w.heap.size f i ∧
      s.pre6 enc C.prog fn [] false (w.forCall tape i).memory i.args ∧ ({} : Assume).holds C.prog (lone (Frame.enter C.prog f i.args .normal) [] (w.forCall tape i))) :
    ReturnsInHanded {} C os f .any (s.pre6 enc C.prog fn [] false) (s.post enc C.prog fn false true false false) := by
  refine returnsInHanded_of_change_sized own started noInit hfn witness ?_
  intro W base args ds gs before hval hW _ _ _
  have hW' := hW
  obtain ⟨p, q, hA, hV, rfl, hfz, hnd⟩ := hW
  rw [hvars] at hV
  obtain ⟨rfl, rfl⟩ := trodVars_none hV
  obtain ⟨dd, r1, r2, r3, r4, r5, r6, r7⟩ := told_args (base := base) hl hty fn.params.toList ks args.toList ds p hpar hA (fun j t v a b => hval j t v (by simpa using a) (by simpa using b))
  obtain ⟨k, hk⟩ := law dd r1 r5
  refine (law_calls htab hg (n := ks.length) ham hrm (vs := args) (by simpa using r2) r3 (fun i hi => ?_) hk).mono fun e W' ⟨he, h1, h2, h3, h4, h5⟩ => ?_
  · have := r6 i hi
    have e : args.toList.getD i undef = args.getD i undef := by rw [List.getD_eq_getElem?_getD, Array.getElem?_toList, ← Array.getD_eq_getD_getElem?]
    rwa [e] at this
  · subst he
    have bel : Below W.heap.size W W' := ⟨h2, h1, h3, h4, h5⟩
    have e1 : s.fn H (ds ++ []) = { results := [.lit (.bool true)], args := ds } := by rw [List.append_nil]; exact hspec H ds r4
    refine ⟨_, rfl, ds, [], p ++ [], [], p, [], hW', ?_, ?_, ?_, bel.frame _, fun h => by cases h⟩
    · rw [e1, hres]
      exact trodAll_mk1 (shut_bool hb _)
    · rw [e1]
      exact r7 W' bel
    · rw [e1, hvars]
      rfl

end Go.Proofs.Ytmfhhbiaghejjaa.GD

namespace Go.Proofs.Ytmfhhbiaghejjaa.GD
open Go
set_option linter.unusedVariables false
set_option linter.unusedSimpArgs false

def chkKs (P : Program) (ty : TypeId → Option Vk) : List (Nat × Vk) → Bool
  | [] => true
  | (e, k) :: l => (!k.ks.all Sk.data || (ksOf P 20 e == some k.ks && isAggT P e == some k.agg && P.cellsOf e == k.ks.length && k.ks.all (telling ty) && Nat.blt 0 k.ks.length)) && chkKs P ty l

def noSpec : List (Nat × Entry) → Bool
  | [] => true
  | (_, .code _) :: l => noSpec l
  | (_, .spec _ _) :: _ => false

theorem lookup_mem {α : Type} : ∀ {l : List (Nat × α)} {e : Nat} {x : α}, l.lookup e = some x → (e, x) ∈ l
  | [], _, _, h => by simp at h
  | (a, b) :: l, e, x, h => by
    rw [List.lookup_cons] at h
    split at h
    · rename_i he
      simp only [beq_iff_eq] at he
      cases h; subst he
      exact List.mem_cons_self ..
    · exact List.mem_cons_of_mem _ (lookup_mem h)

theorem chkKs_mem {P : Program} {ty : TypeId → Option Vk} : ∀ {l : List (Nat × Vk)}, chkKs P ty l = true → ∀ {e k}, (e, k) ∈ l →
    (!k.ks.all Sk.data || (ksOf P 20 e == some k.ks && isAggT P e == some k.agg && P.cellsOf e == k.ks.length && k.ks.all (telling ty) && Nat.blt 0 k.ks.length)) = true
  | (a, b) :: l, h, e, k, hm => by
    simp only [chkKs, Bool.and_eq_true] at h
    rcases List.mem_cons.1 hm with h1 | h1
    · cases h1; exact h.1
    · exact chkKs_mem h.2 h1
  | [], _, _, _, hm => by cases hm

theorem ksOk_of {P : Program} {tyL : List (Nat × Vk)} (h : chkKs P (fun e => tyL.lookup e) tyL = true) : KsOk P (fun e => tyL.lookup e) := by
  intro e k he hd
  have := chkKs_mem h (lookup_mem he)
  simp only [hd, Bool.not_true, Bool.false_or, Bool.and_eq_true, beq_iff_eq, Nat.blt_eq] at this
  obtain ⟨⟨⟨⟨h1, h2⟩, h3⟩, h4⟩, h5⟩ := this
  exact ⟨⟨20, h1⟩, h2, h3, clo_of h4, h5⟩

theorem chkTy_mem {P : Program} : ∀ {l : List (Nat × Vk)}, chkTy P l = true → ∀ {e k}, (e, k) ∈ l → szOk P e k = true ∧ 0 < k.ks.length
  | (a, b) :: l, h, e, k, hm => by
    simp only [chkTy, Bool.and_eq_true, Nat.blt_eq] at h
    rcases List.mem_cons.1 hm with h1 | h1
    · cases h1; exact h.1
    · exact chkTy_mem h.2 h1
  | [], _, _, _, hm => by cases hm

theorem chkTab_mem {P : Program} {ty : TypeId → Option Vk} : ∀ {l : List (Nat × Entry)}, chkTab P ty l = true → ∀ {g f}, (g, Entry.code f) ∈ l → chkFun P ty g f = true
  | (a, .code b) :: l, h, g, f, hm => by
    simp only [chkTab, Bool.and_eq_true] at h
    rcases List.mem_cons.1 hm with h1 | h1
    · cases h1; exact h.1
    · exact chkTab_mem h.2 h1
  | (a, .spec s b) :: l, h, g, f, hm => by
    simp only [chkTab] at h
    rcases List.mem_cons.1 hm with h1 | h1
    · cases h1
    · exact chkTab_mem h h1
  | [], _, _, _, hm => by cases hm

theorem noSpec_mem : ∀ {l : List (Nat × Entry)}, noSpec l = true → ∀ {g s f}, (g, Entry.spec s f) ∈ l → False
  | (a, .code b) :: l, h, g, s, f, hm => by
    rcases List.mem_cons.1 hm with h1 | h1
    · cases h1
    · exact noSpec_mem (l := l) h h1
  | (a, .spec _ _) :: l, h, g, s, f, hm => by cases h
  | [], _, _, _, _, hm => by cases hm

theorem tabOk_of {P : Program} {tyL : List (Nat × Vk)} {tabL : List (Nat × Entry)} (h1 : chkTy P tyL = true) (h2 : P.follows .mixedOrders = true) (h3 : chkTab P (fun e => tyL.lookup e) tabL = true) (h4 : noSpec tabL = true) :
    TabOk P (fun e => tyL.lookup e) (fun g => tabL.lookup g) where
  T := fun e k he => chkTy_mem h1 (lookup_mem he)
  mx := h2
  code := fun g f hg => chkTab_mem h3 (lookup_mem hg)
  spec := fun g s sf hg => (noSpec_mem h4 (lookup_mem hg)).elim
  body := fun g s sf hg => (noSpec_mem h4 (lookup_mem hg)).elim

end Go.Proofs.Ytmfhhbiaghejjaa.GD

namespace Go.Proofs.Ytmfhhbiaghejjaa.GD
open Go
set_option linter.unusedVariables false
set_option linter.unusedSimpArgs false

def BodyOk (P : Program) (ty : TypeId → Option Vk) (g : FuncId) (s : Sig) : Prop :=
  ∃ fn, P.funcs[g]? = some fn ∧ (fn.name == "runtime.NumGoroutine") = false ∧ fn.body.isNone = false ∧ ∀ (i : Nat) (e : TypeId), s.am[i]? = some (.g e) → (ty e).isSome = true

def SpecsOk (P : Program) (ty : TypeId → Option Vk) : List (Nat × Entry) → Prop
  | [] => True
  | (_, .code _) :: l => SpecsOk P ty l
  | (g, .spec s f) :: l => (SoundAt P ty g s f ∧ BodyOk P ty g s) ∧ SpecsOk P ty l

theorem specsOk_mem {P : Program} {ty : TypeId → Option Vk} : ∀ {l : List (Nat × Entry)}, SpecsOk P ty l → ∀ {g s f}, (g, Entry.spec s f) ∈ l → SoundAt P ty g s f ∧ BodyOk P ty g s
  | (a, .code b) :: l, h, g, s, f, hm => by
    rcases List.mem_cons.1 hm with h1 | h1
    · cases h1
    · exact specsOk_mem (l := l) h h1
  | (a, .spec s' b) :: l, h, g, s, f, hm => by
    rcases List.mem_cons.1 hm with h1 | h1
    · cases h1; exact h.1
    · exact specsOk_mem h.2 h1
  | [], _, _, _, _, hm => by cases hm

theorem tabOk_spec {P : Program} {tyL : List (Nat × Vk)} {tabL : List (Nat × Entry)} (h1 : chkTy P tyL = true) (h2 : P.follows .mixedOrders = true) (h3 : chkTab P (fun e => tyL.lookup e) tabL = true)
    (h4 : SpecsOk P (fun e => tyL.lookup e) tabL) : TabOk P (fun e => tyL.lookup e) (fun g => tabL.lookup g) where
  T := fun e k he => chkTy_mem h1 (lookup_mem he)
  mx := h2
  code := fun g f hg => chkTab_mem h3 (lookup_mem hg)
  spec := fun g s sf hg => (specsOk_mem h4 (lookup_mem hg)).1
  body := fun g s sf hg => (specsOk_mem h4 (lookup_mem hg)).2

/-- the cells of a list of elements -/
def CellsL (ty : TypeId → Option Vk) (w : World) (ok : Nat → Prop) (K : Nat) (els : List D) (vs : List Value) : Prop :=
  vs.length = els.length * K ∧ ∀ i j, i < els.length → j < K → RepV ty w ok (vs.getD (i * K + j) undef) ((els.getD i .undef).cell j)

section
variable {ty : TypeId → Option Vk} {w : World} {ok : Nat → Prop} {K : Nat}

theorem CellsL.append {a b : List D} {x y : List Value} (h1 : CellsL ty w ok K a x) (h2 : CellsL ty w ok K b y) : CellsL ty w ok K (a ++ b) (x ++ y) := by
  refine ⟨by rw [List.length_append, List.length_append, h1.1, h2.1, Nat.add_mul], fun i j hi hj => ?_⟩
  rw [List.length_append] at hi
  by_cases h : i < a.length
  · have := h1.2 i j h hj
    have hx : i * K + j < x.length := by rw [h1.1]; exact idx_lt h hj (Nat.le_refl _)
    rw [List.getD_eq_getElem?_getD, List.getElem?_append_left hx, ← List.getD_eq_getElem?_getD]
    rw [List.getD_eq_getElem?_getD (l := a ++ b), List.getElem?_append_left h, ← List.getD_eq_getElem?_getD]
    exact this
  · have h3 : a.length ≤ i := Nat.le_of_not_lt h
    have := h2.2 (i - a.length) j (by omega) hj
    have hx : x.length ≤ i * K + j := by
      rw [h1.1]
      have : a.length * K ≤ i * K := Nat.mul_le_mul_right _ h3
      omega
    have e : i * K + j - x.length = (i - a.length) * K + j := by
      rw [h1.1, Nat.sub_mul]
      have : a.length * K ≤ i * K := Nat.mul_le_mul_right _ h3
      omega
    rw [List.getD_eq_getElem?_getD, List.getElem?_append_right hx, e, ← List.getD_eq_getElem?_getD]
    rw [List.getD_eq_getElem?_getD (l := a ++ b), List.getElem?_append_right h3, ← List.getD_eq_getElem?_getD]
    exact this

theorem CellsL.take {a : List D} {x : List Value} (h : CellsL ty w ok K a x) (n : Nat) (hn : n ≤ a.length) : CellsL ty w ok K (a.take n) (x.take (n * K)) := by
  have hm : n * K ≤ a.length * K := Nat.mul_le_mul_right _ hn
  have hl : (a.take n).length = n := by simp; omega
  refine ⟨by rw [hl, List.length_take, h.1]; omega, fun i j hi hj => ?_⟩
  rw [hl] at hi
  have := h.2 i j (by omega) hj
  have hlt : i * K + j < n * K := idx_lt hi hj (Nat.le_refl _)
  rw [List.getD_eq_getElem?_getD, List.getElem?_take_of_lt hlt, ← List.getD_eq_getElem?_getD, List.getD_eq_getElem?_getD (l := a.take n), List.getElem?_take_of_lt hi, ← List.getD_eq_getElem?_getD]
  exact this

theorem CellsL.drop {a : List D} {x : List Value} (h : CellsL ty w ok K a x) (n : Nat) (hn : n ≤ a.length) : CellsL ty w ok K (a.drop n) (x.drop (n * K)) := by
  have hm : n * K ≤ a.length * K := Nat.mul_le_mul_right _ hn
  have hl : (a.drop n).length = a.length - n := by simp
  refine ⟨by rw [hl, List.length_drop, h.1, Nat.sub_mul], fun i j hi hj => ?_⟩
  rw [hl] at hi
  have := h.2 (n + i) j (by omega) hj
  rw [List.getD_eq_getElem?_getD, List.getElem?_drop, show n * K + (i * K + j) = (n + i) * K + j by rw [Nat.add_mul]; omega, ← List.getD_eq_getElem?_getD, List.getD_eq_getElem?_getD (l := a.drop n), List.getElem?_drop, ← List.getD_eq_getElem?_getD]
  exact this

theorem CellsL.one {k : Vk} {a : List D} {x : List Value} (h : CellsL ty w ok k.ks.length a x) (hf : ∀ d, d ∈ a → k.fits d = true) : ∀ u, u ∈ x → u.oneCell' = true := by
  intro u hu
  obtain ⟨p, hp, rfl⟩ := List.getElem_of_mem hu
  have hp2 := hp
  rw [h.1] at hp2
  have hpos : 0 < k.ks.length := by
    rcases Nat.eq_zero_or_pos k.ks.length with h0 | h0
    · rw [h0] at hp2; simp at hp2
    · exact h0
  have hi : p / k.ks.length < a.length := Nat.div_lt_of_lt_mul (by rw [Nat.mul_comm]; exact hp2)
  have hj := Nat.mod_lt p hpos
  have := h.2 _ _ hi hj
  rw [Nat.mul_comm (p / k.ks.length), Nat.div_add_mod, List.getD_eq_getElem?_getD, List.getElem?_eq_getElem hp] at this
  exact repV_one (C := ⟨ty, fun _ => False, w, fun _ => False⟩) this (Vk.fits_cells (hf _ (mem_getD hi)) _ k.ks[p % k.ks.length] (List.getElem?_eq_getElem hj))

theorem CellsL.mono {w' : World} {ok' : Nat → Prop} {a : List D} {x : List Value} (h : CellsL ty w ok K a x) (hok : ∀ b, ok b → ok' b) (hs : Same ok w w') : CellsL ty w' ok' K a x :=
  ⟨h.1, fun i j hi hj => (h.2 i j hi hj).mono hok hs⟩

/-- a row that is there, by its cells -/
theorem rowR_cells {k : Vk} {v : Value} {blk : Option Nat} {els : List D} {nb : Bool} (h : RowR ty w ok k v blk els nb) :
    (blk = none ∧ els = [] ∧ ∃ a : Option Addr, v = .slice a 0 0 ∧ nb = a.isNone ∧ ∀ x, a = some x → (0 : Nat) ≠ 0 → x.spot = none) ∨
    (nb = false ∧ ∃ g cap cur t, blk = some g ∧ v = .slice (some ⟨g, 0, none⟩) els.length cap ∧ w.heap[g]? = some (.cells cur t (0, 0)) ∧ els.length ≤ cap ∧ cap ≤ maxLen ∧ cur.size = cap * k.ks.length ∧
      CellsL ty w ok k.ks.length els (cur.toList.take (els.length * k.ks.length)) ∧ ∀ d, d ∈ els → k.fits d = true) := by
  obtain ⟨xs, ⟨hl, h1⟩, h2, h3⟩ := h
  rcases h1 with ⟨a1, a2, a, a3, a4, a5⟩ | ⟨b1, g, cap, cur, t, b2, b3, b4, b5, b6, b7, b8⟩
  · exact .inl ⟨a1, List.length_eq_zero_iff.1 a2, a, a3, a4, a5⟩
  · subst b8
    exact .inr ⟨b1, g, cap, cur, t, b2, b3, b4, b5, b6, b7, ⟨hl, h3⟩, h2⟩

/-- .. and back -/
theorem rowR_of {k : Vk} {g n cap : Nat} {cur : Array Value} {t : TypeId} {els : List D} {vs : List Value} (hn : n = els.length) (hh : w.heap[g]? = some (.cells cur t (0, 0))) (hc : els.length ≤ cap) (hm : cap ≤ maxLen)
    (hs : cur.size = cap * k.ks.length) (hv : cur.toList.take (els.length * k.ks.length) = vs) (hcl : CellsL ty w ok k.ks.length els vs) (hf : ∀ d, d ∈ els → k.fits d = true) :
    RowR ty w ok k (.slice (some ⟨g, 0, none⟩) n cap) (some g) els false := by
  subst hv hn
  exact ⟨_, ⟨hcl.1, .inr ⟨rfl, g, cap, cur, t, rfl, rfl, hh, hc, hm, hs, rfl⟩⟩, hf, hcl.2⟩

end

/-- a call that gives back one row, its own or one that was given to it -/
theorem post_row {ty : TypeId → Option Vk} {am : List Am} {w w' : World} {vs : Array Value} {blks : Nat → Option Nat} {X : Nat → Prop} {e : TypeId} {k : Vk} {v : Value} {g : Nat} {els : List D} {l : List D}
    (hp : Pre ty am l w vs blks X) (hno : am.all (fun a => !lentA a) = true) (hk : ty e = some k) (hg : g < w'.heap.size ∧ ((w.heap.size ≤ g) ∨ ∃ j e', am[j]? = some (.g e') ∧ blks j = some g))
    (hrow : RowR ty w' (okR am blks X w' (fun i => if i = 0 then some g else none)) k v (some g) els false)
    (ht : w'.tape = w.tape) (hos : w'.os = w.os) (hout : w'.output = w.output) (hsz : w.heap.size ≤ w'.heap.size) (hfr : ∀ b, b < w.heap.size → (∀ j, blks j ≠ some b) → w'.heap[b]? = w.heap[b]?) :
    ∃ rv rb, v = retV rv ∧ Post ty am [.o e] [.ov e false els] w vs blks X w' rv rb := by
  refine ⟨[v], fun i => if i = 0 then some g else none, rfl, ?_⟩
  exact {
    len := rfl
    rlen := Nat.le_refl _
    res := by
      intro i m hi
      cases i with
      | zero =>
        simp at hi
        subst hi
        exact ⟨false, els, k, rfl, hk, hrow⟩
      | succ i => simp at hi
    back := by
      have : ∀ (as : List Am) (i : Nat), as.all (fun a => !lentA a) = true → BackR ty w' (okR am blks X w' fun i => if i = 0 then some g else none) vs blks i as [] := by
        intro as
        induction as with
        | nil => intro i _; rfl
        | cons a as ih =>
          intro i h
          simp only [List.all_cons, Bool.and_eq_true, Bool.not_eq_true'] at h
          simp only [BackR, h.1]
          exact ih (i + 1) h.2
      exact this am 0 hno
    rblk := by
      intro i b hb
      split at hb
      · rename_i hi
        cases hb
        refine ⟨by simp [hi], hg.1, fun hx => ?_, hg.2⟩
        rcases hg.2 with h | ⟨j, e', h1, h2⟩
        · have := hp.xlt _ hx; omega
        · exact (hp.blk j _ h2).2.2 hx
      · cases hb
    rinj := by
      intro i j b hi hj
      split at hi
      · split at hj
        · omega
        · cases hj
      · cases hi
    tape := ht
    os := hos
    out := hout
    size := hsz
    frame := hfr }

/-- plain memory stays where it lies, when only what was given away and the new is written -/
theorem okR_row {am : List Am} {blks : Nat → Option Nat} {X : Nat → Prop} {w w' : World} {g : Nat} (hsz : w.heap.size ≤ w'.heap.size) (hg : w.heap.size ≤ g ∨ ∃ j, blks j = some g) {b : Nat}
    (h : b < w.heap.size ∧ ¬ X b ∧ ∀ j, blks j ≠ some b) : okR am blks X w' (fun i => if i = 0 then some g else none) b := by
  refine ⟨by omega, h.2.1, fun j hj => ?_, fun j _ _ _ hj => h.2.2 j hj⟩
  dsimp only at hj
  split at hj
  · cases hj
    rcases hg with h1 | ⟨j, h1⟩
    · omega
    · exact h.2.2 j h1
  · cases hj

end Go.Proofs.Ytmfhhbiaghejjaa.GD

namespace Go.Proofs.Ytmfhhbiaghejjaa.GD
open Go
set_option linter.unusedVariables false
set_option linter.unusedSimpArgs false

structure LeE (E E' : Env) : Prop where
  ty : E'.ty = E.ty
  sig : E'.sig = E.sig
  call : ∀ g l r, E.call g l = some r → E'.call g l = some r

section
variable {E E' : Env} (h : LeE E E')
include h

theorem tyAt_le : tyAt E' = tyAt E := by funext e off k; simp only [tyAt, h.ty]
theorem srcEls_le : srcEls E' = srcEls E := by funext os e d; cases d <;> simp only [srcEls, h.ty]
theorem bor_le (sg : Sig) : bor E' sg = bor E sg := by
  have e1 : noSl E' = noSl E := by funext r; cases r <;> simp only [noSl, h.ty]
  have e2 : noSlA E' = noSlA E := by funext r; cases r <;> simp only [noSlA, h.ty]
  simp only [bor, e1, e2]

theorem effK_mono {op : DOp} {l : List D} {os : Vw} {p : D × Wr} (he : effK KS E op l os = some p) : effK KS E' op l os = some p := by
  cases op with
  | call ss =>
    simp only [effK] at he ⊢
    unfold eCall at he ⊢
    split at he
    · rename_i g caps args
      rw [h.sig]
      split at he
      · cases he
      · rename_i sg hsg
        try simp only [hsg]
        split at he
        · cases he
        · rename_i l1 hl1
          try simp only [hl1]
          split at he
          · rename_i hb
            try simp only [hb]
            simp only [Option.bind_eq_some_iff] at he ⊢
            obtain ⟨rs, h1, h2⟩ := he
            exact ⟨rs, h.call _ _ _ h1, by rw [bor_le h]; exact h2⟩
          · cases he
    · cases he
  | load k => simp only [effK, eLoad, tyAt_le h] at he ⊢; exact he
  | store k => simp only [effK, eStore, eStoreAt, tyAt_le h, h.ty] at he ⊢; exact he
  | append s e b => simp only [effK, eAppend, srcEls_le h] at he ⊢; exact he
  | copy e => simp only [effK, eCopy, srcEls_le h] at he ⊢; exact he
  | buildSl s e => simp only [effK, h.ty] at he ⊢; exact he
  | bytes e => simp only [effK, h.ty] at he ⊢; exact he
  | strOf e => simp only [effK, eStrOf, h.ty] at he ⊢; exact he
  | _ => exact he

theorem doS_mono {o : DOper} {st : St} {p : St × Lg} (he : doS E o st = some p) : doS E' o st = some p := by
  unfold doS doK at he ⊢
  simp only at he ⊢
  split at he
  · rename_i hs
    try simp only [hs]
    rw [effK_nat] at he ⊢
    simp only [thenK, Option.bind_eq_some_iff] at he ⊢
    obtain ⟨q, h1, h2⟩ := he
    exact ⟨q, effK_mono h h1, h2⟩
  · cases he

theorem stepS_mono {o : DOper} {st : St} {p : St × Lg} (he : stepS E o st = some p) : stepS E' o st = some p := by
  unfold stepS stepK at he ⊢
  split at he
  · rename_i hg
    try simp only [hg]
    exact doS_mono h he
  · rename_i g want hg
    try simp only [hg]
    split at he
    · rename_i b hb
      try simp only [hb]
      cases want <;> cases b <;> simp only at he ⊢ <;> first | exact doS_mono h he | exact he
    · rename_i hb
      try simp only [hb]
      exact he
    · cases he

theorem opsS_mono : ∀ {ds : List DOper} {st : St} {p : St × List Lg}, opsS E ds st = some p → opsS E' ds st = some p
  | [], st, p, he => he
  | o :: ds, st, p, he => by
    unfold opsS opsK at he ⊢
    rw [stepK_nat] at he ⊢
    simp only [Option.bind_eq_some_iff] at he ⊢
    obtain ⟨q, h1, h2⟩ := he
    refine ⟨q, stepS_mono h h1, ?_⟩
    rw [opsK_nat] at h2 ⊢
    simp only [Option.bind_eq_some_iff] at h2 ⊢
    obtain ⟨q2, h3, h4⟩ := h2
    exact ⟨q2, opsS_mono h3, h4⟩

theorem codeK_mono {R : Type} {k k' : Nat} (hk : k ≤ k') : ∀ (c : DCode) (st : St) (K K' : Ex → St → Option R) (r : R), (∀ ex st r, K ex st = some r → K' ex st = some r) → codeK E k c st K = some r → codeK E' k' c st K' = some r := by
  intro c
  induction c with
  | skip => intro st K K' r hK he; exact hK _ _ _ he
  | exit id => intro st K K' r hK he; exact hK _ _ _ he
  | ret => intro st K K' r hK he; exact hK _ _ _ he
  | bad => intro st K K' r hK he; cases he
  | region draw ops =>
    intro st K K' r hK he
    unfold codeK at he ⊢
    rw [opsK_nat] at he ⊢
    simp only [Option.bind_eq_some_iff] at he ⊢
    obtain ⟨q, h1, h2⟩ := he
    refine ⟨q, opsS_mono h h1, ?_⟩
    cases draw with
    | false => exact hK _ _ _ h2
    | true =>
      simp only at h2 ⊢
      split at h2
      · rename_i hd; try simp only [hd]
        exact hK _ _ _ h2
      · cases h2
  | seq a b iha ihb =>
    intro st K K' r hK he
    unfold codeK at he ⊢
    refine iha st _ _ r ?_ he
    intro ex st r he
    cases ex with
    | norm => exact ihb _ _ _ _ hK he
    | exit id => exact hK _ _ _ he
    | ret => exact hK _ _ _ he
  | cond c a b iha ihb =>
    intro st K K' r hK he
    unfold codeK at he ⊢
    split at he
    · rename_i t ht
      try simp only [ht]
      cases t with
      | true => exact iha _ _ _ _ hK he
      | false => exact ihb _ _ _ _ hK he
    · cases he
  | block id c ih =>
    intro st K K' r hK he
    unfold codeK at he ⊢
    refine ih st _ _ r ?_ he
    intro ex st r he
    cases ex with
    | norm => exact hK _ _ _ he
    | ret => exact hK _ _ _ he
    | exit id' =>
      simp only at he ⊢
      split at he
      · rename_i hd; try simp only [hd]
        exact hK _ _ _ he
      · rename_i hd; try simp only [hd]
        exact hK _ _ _ he
  | loop sh c ih =>
    intro st K K' r hK he
    unfold codeK at he ⊢
    split at he
    · rename_i vs hvs
      try simp only [hvs]
      clear hvs
      revert he
      suffices key : ∀ (n n' : Nat), n ≤ n' → ∀ vs r, iter n (fun vs again => codeK E k c (unpack sh st vs) fun ex st' => match ex with
          | .norm => match pack sh st' with | some vs' => again vs' | none => none
          | ex => K ex st') vs = some r → iter n' (fun vs again => codeK E' k' c (unpack sh st vs) fun ex st' => match ex with
          | .norm => match pack sh st' with | some vs' => again vs' | none => none
          | ex => K' ex st') vs = some r from key k k' hk vs r
      intro n
      induction n with
      | zero => intro n' _ vs r he; cases he
      | succ n ihn =>
        intro n' hn vs r he
        obtain ⟨m, rfl⟩ : ∃ m, n' = m + 1 := ⟨n' - 1, by omega⟩
        unfold iter at he ⊢
        refine ih _ _ _ r ?_ he
        intro ex st' r' he
        cases ex with
        | norm =>
          simp only at he ⊢
          split at he
          · rename_i vs' hv
            exact ihn m (by omega) vs' r' he
          · cases he
        | exit id => exact hK _ _ _ he
        | ret => exact hK _ _ _ he
    · cases he

theorem dbody_mono {k k' : Nat} (hk : k ≤ k') {f : DFun} {l r : List D} (he : dbody f E k l = some r) : dbody f E' k' l = some r := by
  unfold dbody at he ⊢
  split at he
  · refine codeK_mono h hk _ _ _ _ _ ?_ he
    intro ex st r he
    cases ex <;> exact he
  · cases he

end

section
variable {ty : TypeId → Option Vk} {tab : FuncId → Option Entry}

theorem leE_envOf {C C' : FuncId → List D → Option (List D)} (h : ∀ g l r, C g l = some r → C' g l = some r) : LeE (envOf ty tab C) (envOf ty tab C') := ⟨rfl, rfl, h⟩

theorem dcall_mono : ∀ {k k' : Nat}, k ≤ k' → ∀ {g : FuncId} {l r : List D}, dcall ty tab k g l = some r → dcall ty tab k' g l = some r
  | 0, _, _, g, l, r, he => by cases he
  | k + 1, k', hk, g, l, r, he => by
    obtain ⟨m, rfl⟩ : ∃ m, k' = m + 1 := ⟨k' - 1, by omega⟩
    unfold dcall at he ⊢
    split at he
    · exact dbody_mono (leE_envOf fun g l r h => dcall_mono (by omega) h) (by omega) he
    · exact he
    · cases he

/-- what a function gives, with fuel enough -/
def Ev (ty : TypeId → Option Vk) (tab : FuncId → Option Entry) (g : FuncId) (l r : List D) : Prop := ∃ k, dcall ty tab k g l = some r

theorem Ev.of {g : FuncId} {l r : List D} {f : DFun} (hg : tab g = some (.code f)) (C : FuncId → List D → Option (List D)) (k : Nat) (hC : ∀ g l r, C g l = some r → ∃ k, ∀ k', k ≤ k' → dcall ty tab k' g l = some r)
    (hfin : ∃ K, ∀ g l r, C g l = some r → dcall ty tab K g l = some r) (he : dbody f (envOf ty tab C) k l = some r) : Ev ty tab g l r := by
  obtain ⟨K, hK⟩ := hfin
  refine ⟨max K k + 1, ?_⟩
  unfold dcall
  rw [hg]
  exact dbody_mono (leE_envOf fun g l r h => dcall_mono (by omega) (hK g l r h)) (by omega) he

end

end Go.Proofs.Ytmfhhbiaghejjaa.GD

namespace Go.Proofs.Ytmfhhbiaghejjaa.GD
open Go
set_option linter.unusedVariables false
set_option linter.unusedSimpArgs false

structure LimE (E : Env) (F : Nat → Env) : Prop where
  ty : ∀ n, (F n).ty = E.ty
  sig : ∀ n, (F n).sig = E.sig
  call : ∀ g l r, E.call g l = some r → ∃ N, ∀ n, N ≤ n → (F n).call g l = some r

theorem iter_mono {R : Type} {G : List D → (List D → Option R) → Option R} (hG : ∀ (a a' : List D → Option R), (∀ vs r, a vs = some r → a' vs = some r) → ∀ vs r, G vs a = some r → G vs a' = some r) :
    ∀ {m m' : Nat}, m ≤ m' → ∀ {vs : List D} {r : R}, iter m G vs = some r → iter m' G vs = some r
  | 0, _, _, _, _, he => by cases he
  | m + 1, m', hm, vs, r, he => by
    obtain ⟨n, rfl⟩ : ∃ n, m' = n + 1 := ⟨m' - 1, by omega⟩
    unfold iter at he ⊢
    exact hG _ _ (fun vs r => iter_mono hG (by omega)) vs r he

section
variable {E : Env} {F : Nat → Env} (h : LimE E F)
include h

theorem tyAt_lim (n : Nat) : tyAt (F n) = tyAt E := by funext e off k; simp only [tyAt, h.ty]
theorem srcEls_lim (n : Nat) : srcEls (F n) = srcEls E := by funext os e d; cases d <;> simp only [srcEls, h.ty]
theorem bor_lim (n : Nat) (sg : Sig) : bor (F n) sg = bor E sg := by
  have e1 : noSl (F n) = noSl E := by funext r; cases r <;> simp only [noSl, h.ty]
  have e2 : noSlA (F n) = noSlA E := by funext r; cases r <;> simp only [noSlA, h.ty]
  simp only [bor, e1, e2]

theorem effK_lim {op : DOp} {l : List D} {os : Vw} {p : D × Wr} (he : effK KS E op l os = some p) : ∃ N, ∀ n, N ≤ n → effK KS (F n) op l os = some p := by
  cases op with
  | call ss =>
    simp only [effK] at he ⊢
    unfold eCall at he ⊢
    split at he
    · rename_i g caps args
      simp only [h.sig]
      split at he
      · cases he
      · rename_i sg hsg
        split at he
        · cases he
        · rename_i l1 hl1
          split at he
          · rename_i hb
            simp only [Option.bind_eq_some_iff] at he
            obtain ⟨rs, h1, h2⟩ := he
            obtain ⟨N, hN⟩ := h.call _ _ _ h1
            refine ⟨N, fun n hn => ?_⟩
            simp only [hN n hn, Option.bind_some, bor_lim h]
            exact h2
          · cases he
    · cases he
  | load k => exact ⟨0, fun n _ => by simp only [effK, eLoad, tyAt_lim h] at he ⊢; exact he⟩
  | store k => exact ⟨0, fun n _ => by simp only [effK, eStore, eStoreAt, tyAt_lim h, h.ty] at he ⊢; exact he⟩
  | append s e b => exact ⟨0, fun n _ => by simp only [effK, eAppend, srcEls_lim h] at he ⊢; exact he⟩
  | copy e => exact ⟨0, fun n _ => by simp only [effK, eCopy, srcEls_lim h] at he ⊢; exact he⟩
  | buildSl s e => exact ⟨0, fun n _ => by simp only [effK, h.ty] at he ⊢; exact he⟩
  | bytes e => exact ⟨0, fun n _ => by simp only [effK, h.ty] at he ⊢; exact he⟩
  | strOf e => exact ⟨0, fun n _ => by simp only [effK, eStrOf, h.ty] at he ⊢; exact he⟩
  | _ => exact ⟨0, fun n _ => he⟩

theorem doS_lim {o : DOper} {st : St} {p : St × Lg} (he : doS E o st = some p) : ∃ N, ∀ n, N ≤ n → doS (F n) o st = some p := by
  unfold doS doK at he ⊢
  simp only at he ⊢
  split at he
  · rename_i hs
    rw [effK_nat] at he
    simp only [thenK, Option.bind_eq_some_iff] at he
    obtain ⟨q, h1, h2⟩ := he
    obtain ⟨N, hN⟩ := effK_lim h h1
    refine ⟨N, fun n hn => ?_⟩
    rw [effK_nat]
    simp only [thenK, Option.bind_eq_some_iff]
    exact ⟨q, hN n hn, h2⟩
  · cases he

theorem stepS_lim {o : DOper} {st : St} {p : St × Lg} (he : stepS E o st = some p) : ∃ N, ∀ n, N ≤ n → stepS (F n) o st = some p := by
  unfold stepS stepK at he ⊢
  split at he
  · rename_i hg
    exact doS_lim h he
  · rename_i g want hg
    split at he
    · rename_i b hb
      cases want <;> cases b <;> simp only at he ⊢ <;> first | exact doS_lim h he | exact ⟨0, fun _ _ => he⟩
    · exact ⟨0, fun _ _ => he⟩
    · cases he

theorem opsS_lim : ∀ {ds : List DOper} {st : St} {p : St × List Lg}, opsS E ds st = some p → ∃ N, ∀ n, N ≤ n → opsS (F n) ds st = some p
  | [], st, p, he => ⟨0, fun _ _ => he⟩
  | o :: ds, st, p, he => by
    unfold opsS opsK at he
    rw [stepK_nat] at he
    simp only [Option.bind_eq_some_iff] at he
    obtain ⟨q, h1, h2⟩ := he
    rw [opsK_nat] at h2
    simp only [Option.bind_eq_some_iff] at h2
    obtain ⟨q2, h3, h4⟩ := h2
    obtain ⟨N1, g1⟩ := stepS_lim h h1
    obtain ⟨N2, g2⟩ := opsS_lim h3
    refine ⟨max N1 N2, fun n hn => ?_⟩
    unfold opsS opsK
    rw [stepK_nat]
    simp only [Option.bind_eq_some_iff]
    refine ⟨q, g1 n (by omega), ?_⟩
    rw [opsK_nat]
    simp only [Option.bind_eq_some_iff]
    exact ⟨q2, g2 n (by omega), h4⟩

theorem codeK_lim {R : Type} {k : Nat} : ∀ (c : DCode) (st : St) (K : Ex → St → Option R) (K' : Nat → Ex → St → Option R) (r : R), (∀ ex st r, K ex st = some r → ∃ N, ∀ n, N ≤ n → K' n ex st = some r) → codeK E k c st K = some r →
    ∃ N, ∀ n, N ≤ n → codeK (F n) n c st (K' n) = some r := by
  intro c
  induction c with
  | skip => intro st K K' r hK he; exact hK _ _ _ he
  | exit id => intro st K K' r hK he; exact hK _ _ _ he
  | ret => intro st K K' r hK he; exact hK _ _ _ he
  | bad => intro st K K' r hK he; cases he
  | region draw ops =>
    intro st K K' r hK he
    unfold codeK at he
    rw [opsK_nat] at he
    simp only [Option.bind_eq_some_iff] at he
    obtain ⟨q, h1, h2⟩ := he
    obtain ⟨N1, g1⟩ := opsS_lim h h1
    have key : ∃ N, ∀ n, N ≤ n → (match draw with
      | false => K' n .norm q.1
      | true => match okDraw ops q.2 with | true => K' n .norm q.1 | false => none) = some r := by
      cases draw with
      | false => exact hK _ _ _ h2
      | true =>
        simp only at h2 ⊢
        split at h2
        · rename_i hd; simpa only [hd] using hK _ _ _ h2
        · cases h2
    obtain ⟨N2, g2⟩ := key
    refine ⟨max N1 N2, fun n hn => ?_⟩
    unfold codeK
    rw [opsK_nat]
    simp only [Option.bind_eq_some_iff]
    exact ⟨q, g1 n (by omega), g2 n (by omega)⟩
  | seq a b iha ihb =>
    intro st K K' r hK he
    unfold codeK at he ⊢
    refine iha st _ (fun n ex st' => match ex with
      | .norm => codeK (F n) n b st' (K' n)
      | ex => K' n ex st') r ?_ he
    intro ex st r he
    cases ex with
    | norm => exact ihb _ _ _ _ hK he
    | exit id => exact hK _ _ _ he
    | ret => exact hK _ _ _ he
  | cond c a b iha ihb =>
    intro st K K' r hK he
    unfold codeK at he ⊢
    split at he
    · rename_i t ht
      cases t with
      | true => exact iha _ _ _ _ hK he
      | false => exact ihb _ _ _ _ hK he
    · cases he
  | block id c ih =>
    intro st K K' r hK he
    unfold codeK at he ⊢
    refine ih st _ (fun n ex st' => match ex with
      | .exit id' => match Nat.beq id' id with | true => K' n .norm st' | false => K' n (.exit id') st'
      | ex => K' n ex st') r ?_ he
    intro ex st r he
    cases ex with
    | norm => exact hK _ _ _ he
    | ret => exact hK _ _ _ he
    | exit id' =>
      simp only at he ⊢
      split at he
      · rename_i hd; simpa only [hd] using hK _ _ _ he
      · rename_i hd; simpa only [hd] using hK _ _ _ he
  | loop sh c ih =>
    intro st K K' r hK he
    unfold codeK at he ⊢
    split at he
    · rename_i vs hvs
      clear hvs
      revert he
      let G (n : Nat) (vs : List D) (again : List D → Option R) : Option R := codeK (F n) n c (unpack sh st vs) fun ex st' => match ex with
          | .norm => match pack sh st' with | some vs' => again vs' | none => none
          | ex => K' n ex st'
      have hG : ∀ n (a a' : List D → Option R), (∀ vs r, a vs = some r → a' vs = some r) → ∀ vs r, G n vs a = some r → G n vs a' = some r := by
        intro n a a' ha vs r he
        refine codeK_mono (E := F n) (E' := F n) ⟨rfl, rfl, fun _ _ _ x => x⟩ (Nat.le_refl _) c _ _ _ r ?_ he
        intro ex st' r' he
        cases ex with
        | norm =>
          simp only at he ⊢
          split at he
          · exact ha _ _ he
          · cases he
        | exit id => exact he
        | ret => exact he
      suffices key : ∀ (m : Nat) vs r, iter m (fun vs again => codeK E k c (unpack sh st vs) fun ex st' => match ex with
          | .norm => match pack sh st' with | some vs' => again vs' | none => none
          | ex => K ex st') vs = some r → ∃ N, ∀ n, N ≤ n → iter m (G n) vs = some r by
        intro he
        obtain ⟨N, hN⟩ := key k vs r he
        exact ⟨max N k, fun n hn => iter_mono (hG n) (by omega) (hN n (by omega))⟩
      intro m
      induction m with
      | zero => intro vs r he; cases he
      | succ m ihm =>
        intro vs r he
        unfold iter at he
        exact ih _ _ (fun n ex st' => match ex with
          | .norm => match pack sh st' with
            | some vs' => iter m (G n) vs'
            | none => none
          | ex => K' n ex st') r (by
            intro ex st' r' he
            cases ex with
            | norm =>
              simp only at he ⊢
              split at he
              · rename_i hv; simpa only [hv] using ihm _ _ he
              · cases he
            | exit id => exact hK _ _ _ he
            | ret => exact hK _ _ _ he) he
    · cases he

theorem dbody_lim {k : Nat} {f : DFun} {l r : List D} (he : dbody f E k l = some r) : ∃ N, ∀ n, N ≤ n → dbody f (F n) n l = some r := by
  unfold dbody at he ⊢
  split at he
  · refine codeK_lim h _ _ _ (fun n ex st' => match ex with
      | .exit _ => none
      | _ => finish f st') _ ?_ he
    intro ex st r he
    cases ex <;> exact ⟨0, fun _ _ => he⟩
  · cases he

end

section
variable (ty : TypeId → Option Vk) (tab : FuncId → Option Entry)

open Classical in
/-- what a function gives with fuel enough -/
noncomputable def Cl (g : FuncId) (l : List D) : Option (List D) := if h : ∃ r, Ev ty tab g l r then some h.choose else none

variable {ty : TypeId → Option Vk} {tab : FuncId → Option Entry}

theorem Ev.uniq {g : FuncId} {l r r' : List D} (h : Ev ty tab g l r) (h' : Ev ty tab g l r') : r = r' := by
  obtain ⟨k, hk⟩ := h
  obtain ⟨k', hk'⟩ := h'
  have h1 := dcall_mono (Nat.le_max_left k k') hk
  have h2 := dcall_mono (Nat.le_max_right k k') hk'
  rw [h1] at h2
  exact Option.some.inj h2

theorem Cl_eq {g : FuncId} {l r : List D} : Cl ty tab g l = some r ↔ Ev ty tab g l r := by
  unfold Cl
  constructor
  · intro h
    split at h
    · rename_i hx
      cases h
      exact hx.choose_spec
    · cases h
  · intro h
    rw [dif_pos ⟨r, h⟩]
    congr 1
    exact Ev.uniq (Exists.choose_spec (⟨r, h⟩ : ∃ r, Ev ty tab g l r)) h

/-- a function that is told by hand -/
theorem cl_spec {g : FuncId} {s : Sig} {f : List D → Option (List D)} (hg : tab g = some (.spec s f)) (l : List D) : Cl ty tab g l = f l := by
  cases e : f l with
  | some r => exact Cl_eq.2 ⟨1, by unfold dcall; rw [hg]; exact e⟩
  | none =>
    cases e2 : Cl ty tab g l with
    | none => rfl
    | some r =>
      obtain ⟨k, hk⟩ := Cl_eq.1 e2
      cases k with
      | zero => cases hk
      | succ k =>
        unfold dcall at hk
        rw [hg] at hk
        change f l = some r at hk
        rw [e] at hk
        cases hk

/-- a call, by what its callees give -/
theorem Ev.body {g : FuncId} {f : DFun} (hg : tab g = some (.code f)) {l r : List D} (k : Nat) (he : dbody f (envOf ty tab (Cl ty tab)) k l = some r) : Ev ty tab g l r := by
  have h : LimE (envOf ty tab (Cl ty tab)) (fun n => envOf ty tab (dcall ty tab n)) := ⟨fun _ => rfl, fun _ => rfl, fun g l r hc => by
    obtain ⟨N, hN⟩ := Cl_eq.1 hc
    exact ⟨N, fun n hn => dcall_mono hn hN⟩⟩
  obtain ⟨N, hN⟩ := dbody_lim h he
  refine ⟨N + 1, ?_⟩
  unfold dcall
  rw [hg]
  exact hN N (Nat.le_refl _)

/-- a call, by a table of what its callees give -/
theorem Ev.by {g : FuncId} {f : DFun} (hg : tab g = some (.code f)) {l r : List D} (C : FuncId → List D → Option (List D)) (hC : ∀ g l r, C g l = some r → Ev ty tab g l r) (k : Nat) (he : dbody f (envOf ty tab C) k l = some r) : Ev ty tab g l r :=
  Ev.body hg k (dbody_mono (leE_envOf fun g l r h => Cl_eq.2 (hC g l r h)) (Nat.le_refl _) he)

end
end Go.Proofs.Ytmfhhbiaghejjaa.GD

namespace Go.Proofs.Ytmfhhbiaghejjaa.GD
open Go
set_option linter.unusedVariables false
set_option linter.unusedSimpArgs false

def eqK : IntKind → IntKind → Bool := fun a b => decide (a = b)
def eqBytes : List UInt8 → List UInt8 → Bool
  | [], [] => true
  | a :: l, b :: m => Nat.beq a.toNat b.toNat && eqBytes l m
  | _, _ => false

theorem eqBytes_eq : ∀ {a b : List UInt8}, eqBytes a b = true → a = b
  | [], [], _ => rfl
  | a :: l, b :: m, h => by
    simp only [eqBytes, Bool.and_eq_true] at h
    rw [eqBytes_eq h.2, UInt8.toNat_inj.1 (Nat.eq_of_beq_eq_true h.1)]
  | [], _ :: _, h => by cases h
  | _ :: _, [], h => by cases h

def eqInt : Int → Int → Bool
  | .ofNat a, .ofNat b => Nat.beq a b
  | .negSucc a, .negSucc b => Nat.beq a b
  | _, _ => false
theorem eqInt_eq {a b : Int} (h : eqInt a b = true) : a = b := by
  cases a <;> cases b <;> simp [eqInt] at h <;> subst h <;> rfl

def eqBool : Bool → Bool → Bool
  | true, true => true
  | false, false => true
  | _, _ => false

mutual
def eqD (a : D) (b : D) : Bool := match a, b with
  | .undef, .undef => true
  | .int k n, .int k' n' => eqK k k' && eqInt n n'
  | .bool b, .bool b' => eqBool b b'
  | .str s, .str s' => eqBytes s.data.toList s'.data.toList
  | .sl e nb els, .sl e' nb' els' => Nat.beq e e' && eqBool nb nb' && eqDs els els'
  | .zs e nb, .zs e' nb' => Nat.beq e e' && eqBool nb nb'
  | .agg cs, .agg cs' => eqDs cs cs'
  | .fn g caps, .fn g' caps' => Nat.beq g g' && eqDs caps caps'
  | .nilfn, .nilfn => true
  | .rp cs off, .rp cs' off' => Nat.beq off off' && eqDs cs cs'
  | .tup ds, .tup ds' => eqDs ds ds'
  | .ov e nb els, .ov e' nb' els' => Nat.beq e e' && eqBool nb nb' && eqDs els els'
  | .pv cs, .pv cs' => eqDs cs cs'
  | _, _ => false
def eqDs (a : List D) (b : List D) : Bool := match a, b with
  | [], [] => true
  | x :: xs, y :: ys => eqD x y && eqDs xs ys
  | _, _ => false
end

theorem eqBool_eq {a b : Bool} (h : eqBool a b = true) : a = b := by cases a <;> cases b <;> first | rfl | cases h

mutual
theorem eqD_eq (a : D) (b : D) (h : eqD a b = true) : a = b := by
  cases a <;> cases b <;> simp only [eqD, Bool.and_eq_true, Bool.false_eq_true] at h
  case undef.undef => rfl
  case nilfn.nilfn => rfl
  case int.int => simp only [eqK, decide_eq_true_eq] at h; rw [h.1, eqInt_eq h.2]
  case bool.bool => rw [eqBool_eq h]
  case str.str s s' =>
    have := eqBytes_eq h
    obtain ⟨⟨l⟩⟩ := s
    obtain ⟨⟨m⟩⟩ := s'
    simp at this
    rw [this]
  case sl.sl => rw [Nat.eq_of_beq_eq_true h.1.1, eqBool_eq h.1.2, eqDs_eq _ _ h.2]
  case zs.zs => rw [Nat.eq_of_beq_eq_true h.1, eqBool_eq h.2]
  case agg.agg => rw [eqDs_eq _ _ h]
  case fn.fn => rw [Nat.eq_of_beq_eq_true h.1, eqDs_eq _ _ h.2]
  case rp.rp => rw [Nat.eq_of_beq_eq_true h.1, eqDs_eq _ _ h.2]
  case tup.tup => rw [eqDs_eq _ _ h]
  case ov.ov => rw [Nat.eq_of_beq_eq_true h.1.1, eqBool_eq h.1.2, eqDs_eq _ _ h.2]
  case pv.pv => rw [eqDs_eq _ _ h]
theorem eqDs_eq (a : List D) (b : List D) (h : eqDs a b = true) : a = b := by
  cases a <;> cases b <;> simp only [eqDs, Bool.and_eq_true, Bool.false_eq_true] at h
  case nil.nil => rfl
  case cons.cons => rw [eqD_eq _ _ h.1, eqDs_eq _ _ h.2]
end

abbrev Row := FuncId × List D × List D

def lookC : List Row → FuncId → List D → Option (List D)
  | [], _, _ => none
  | (g', l', r') :: t, g, l => match Nat.beq g' g && eqDs l' l with
    | true => some r'
    | false => lookC t g l

def AllEv (ty : TypeId → Option Vk) (tab : FuncId → Option Entry) : List Row → Prop
  | [] => True
  | (g, l, r) :: t => Ev ty tab g l r ∧ AllEv ty tab t

theorem lookC_ok {ty : TypeId → Option Vk} {tab : FuncId → Option Entry} : ∀ {t : List Row}, AllEv ty tab t → ∀ g l r, lookC t g l = some r → Ev ty tab g l r
  | [], _, g, l, r, h => by cases h
  | (g', l', r') :: t, h, g, l, r, hl => by
    unfold lookC at hl
    split at hl
    · rename_i hb
      simp only [Bool.and_eq_true] at hb
      cases hl
      rw [← Nat.eq_of_beq_eq_true hb.1, ← eqDs_eq _ _ hb.2]
      exact h.1
    · exact lookC_ok h.2 g l r hl

theorem Ev.row {ty : TypeId → Option Vk} {tab : FuncId → Option Entry} {g : FuncId} {f : DFun} (hg : tab g = some (.code f)) {l r : List D} (t : List Row) (ht : AllEv ty tab t) (k : Nat) (he : dbody f (envOf ty tab (lookC t)) k l = some r) : Ev ty tab g l r :=
  Ev.by hg (lookC t) (lookC_ok ht) k he

/-- a call of a function that is told by hand -/
theorem Ev.told {ty : TypeId → Option Vk} {tab : FuncId → Option Entry} {g : FuncId} {s : Sig} {f : List D → Option (List D)} {l r : List D} (hg : tab g = some (.spec s f)) (h : f l = some r) : Ev ty tab g l r :=
  ⟨1, by unfold dcall; rw [hg]; exact h⟩

end Go.Proofs.Ytmfhhbiaghejjaa.GD

namespace Go.Proofs.Ytmfhhbiaghejjaa.GD
open Go
set_option linter.unusedVariables false
set_option linter.unusedSimpArgs false

section
variable {E : Env} {k : Nat}

theorem codeK_then {R R' : Type} {Q : R → R' → Prop} : ∀ (c : DCode) (st : St) (K : Ex → St → Option R) (K' : Ex → St → Option R'), (∀ ex st r r', K ex st = some r → Q r r' → K' ex st = some r') → ∀ r r', codeK E k c st K = some r → Q r r' → codeK E k c st K' = some r' := by
  intro c
  induction c with
  | skip => intro st K K' hK r r' he hq; exact hK _ _ _ _ he hq
  | exit id => intro st K K' hK r r' he hq; exact hK _ _ _ _ he hq
  | ret => intro st K K' hK r r' he hq; exact hK _ _ _ _ he hq
  | bad => intro st K K' hK r r' he hq; cases he
  | region draw ops =>
    intro st K K' hK r r' he hq
    unfold codeK at he ⊢
    rw [opsK_nat] at he ⊢
    simp only [Option.bind_eq_some_iff] at he ⊢
    obtain ⟨q, h1, h2⟩ := he
    refine ⟨q, h1, ?_⟩
    cases draw with
    | false => exact hK _ _ _ _ h2 hq
    | true =>
      simp only at h2 ⊢
      split at h2
      · rename_i hd; try simp only [hd]
        exact hK _ _ _ _ h2 hq
      · cases h2
  | seq a b iha ihb =>
    intro st K K' hK r r' he hq
    unfold codeK at he ⊢
    refine iha st _ _ ?_ r r' he hq
    intro ex st r r' he hq
    cases ex with
    | norm => exact ihb _ _ _ hK _ _ he hq
    | exit id => exact hK _ _ _ _ he hq
    | ret => exact hK _ _ _ _ he hq
  | cond c a b iha ihb =>
    intro st K K' hK r r' he hq
    unfold codeK at he ⊢
    split at he
    · rename_i t ht
      try simp only [ht]
      cases t with
      | true => exact iha _ _ _ hK _ _ he hq
      | false => exact ihb _ _ _ hK _ _ he hq
    · cases he
  | block id c ih =>
    intro st K K' hK r r' he hq
    unfold codeK at he ⊢
    refine ih st _ _ ?_ r r' he hq
    intro ex st r r' he hq
    cases ex with
    | norm => exact hK _ _ _ _ he hq
    | ret => exact hK _ _ _ _ he hq
    | exit id' =>
      simp only at he ⊢
      split at he
      · rename_i hd; try simp only [hd]
        exact hK _ _ _ _ he hq
      · rename_i hd; try simp only [hd]
        exact hK _ _ _ _ he hq
  | loop sh c ih =>
    intro st K K' hK r r' he hq
    unfold codeK at he ⊢
    split at he
    · rename_i vs hvs
      try simp only [hvs]
      clear hvs
      revert he
      suffices key : ∀ (n : Nat), ∀ vs r r', iter n (fun vs again => codeK E k c (unpack sh st vs) fun ex st' => match ex with
          | .norm => match pack sh st' with | some vs' => again vs' | none => none
          | ex => K ex st') vs = some r → Q r r' → iter n (fun vs again => codeK E k c (unpack sh st vs) fun ex st' => match ex with
          | .norm => match pack sh st' with | some vs' => again vs' | none => none
          | ex => K' ex st') vs = some r' from fun he => key k vs r r' he hq
      intro n
      induction n with
      | zero => intro vs r r' he; cases he
      | succ n ihn =>
        intro vs r r' he hq
        unfold iter at he ⊢
        refine ih _ _ _ ?_ r r' he hq
        intro ex st' r1 r1' he hq
        cases ex with
        | norm =>
          simp only at he ⊢
          split at he
          · rename_i vs' hv
            exact ihn vs' r1 r1' he hq
          · cases he
        | exit id => exact hK _ _ _ _ he hq
        | ret => exact hK _ _ _ _ he hq
    · cases he

/-- a part's end -/
def ret (ex : Ex) (st : St) : Option (Ex × St) := some (ex, st)
theorem ret_then {R : Type} {c : DCode} {st st1 : St} {ex1 : Ex} {K : Ex → St → Option R} {r : R} (h : codeK E k c st ret = some (ex1, st1)) (hK : K ex1 st1 = some r) : codeK E k c st K = some r :=
  codeK_then (Q := fun p r => K p.1 p.2 = some r) c st ret K (fun ex st p r he hq => by cases he; exact hq) (ex1, st1) r h hK
theorem seq_cut {R : Type} {a b : DCode} {st st1 : St} {K : Ex → St → Option R} {r : R} (h : codeK E k a st ret = some (.norm, st1)) (h2 : codeK E k b st1 K = some r) : codeK E k (.seq a b) st K = some r := by
  unfold codeK
  exact ret_then h h2
theorem block_exit {R : Type} {id : Nat} {c : DCode} {st st1 : St} {K : Ex → St → Option R} {r : R} (h : codeK E k c st ret = some (.exit id, st1)) (h2 : K .norm st1 = some r) : codeK E k (.block id c) st K = some r := by
  unfold codeK
  refine ret_then h ?_
  simp only [Nat.beq_refl]
  exact h2

/-- one round -/
def round1 (E : Env) (k : Nat) (sh : Shape) (c : DCode) (st : St) (vs : List D) : Option (List D) :=
  codeK E k c (unpack sh st vs) fun ex st' => match ex with | .norm => pack sh st' | _ => none
/-- n rounds -/
def roundsN (E : Env) (k : Nat) (sh : Shape) (c : DCode) (st : St) : Nat → List D → Option (List D)
  | 0, vs => some vs
  | n + 1, vs => match round1 E k sh c st vs with | some vs' => roundsN E k sh c st n vs' | none => none
/-- the round in which the loop ends -/
def lastR (E : Env) (k : Nat) (sh : Shape) (c : DCode) (st : St) (vs : List D) : Option (Ex × St) :=
  codeK E k c (unpack sh st vs) fun ex st' => match ex with | .norm => none | ex => some (ex, st')

theorem roundsN_add {sh : Shape} {c : DCode} {st : St} : ∀ (n m : Nat) {vs vs1 vs2 : List D}, roundsN E k sh c st n vs = some vs1 → roundsN E k sh c st m vs1 = some vs2 → roundsN E k sh c st (n + m) vs = some vs2
  | 0, m, vs, vs1, vs2, h1, h2 => by
    unfold roundsN at h1
    cases h1
    rw [Nat.zero_add]; exact h2
  | n + 1, m, vs, vs1, vs2, h1, h2 => by
    rw [show n + 1 + m = (n + m) + 1 by omega]
    unfold roundsN at h1 ⊢
    split at h1
    · rename_i vs' hv
      try simp only [hv]
      exact roundsN_add n m h1 h2
    · cases h1

theorem loop_cut {sh : Shape} {c : DCode} {st st1 : St} {ex1 : Ex} {vs vs1 : List D} (n : Nat) (hp : pack sh st = some vs) (hr : roundsN E k sh c st n vs = some vs1) (hl : lastR E k sh c st vs1 = some (ex1, st1)) (hn : Nat.blt n k = true) :
    codeK E k (.loop sh c) st ret = some (ex1, st1) := by
  have hn : n < k := Nat.le_of_ble_eq_true hn
  unfold codeK
  simp only [hp]
  clear hp
  suffices key : ∀ n vs, roundsN E k sh c st n vs = some vs1 → ∀ m, n < m → iter m (fun vs again => codeK E k c (unpack sh st vs) fun ex st' => match ex with
      | .norm => match pack sh st' with | some vs' => again vs' | none => none
      | ex => ret ex st') vs = some (ex1, st1) from key n vs hr k hn
  intro n
  induction n with
  | zero =>
    intro vs hr m hm
    unfold roundsN at hr
    cases hr
    obtain ⟨m, rfl⟩ : ∃ m', m = m' + 1 := ⟨m - 1, by omega⟩
    unfold iter
    unfold lastR at hl
    refine codeK_then (Q := fun p r => p = r) c _ _ _ ?_ _ _ hl rfl
    intro ex' st' r r' he hq
    subst hq
    cases ex' with
    | norm => cases he
    | exit id => exact he
    | ret => exact he
  | succ n ihn =>
    intro vs hr m hm
    obtain ⟨m, rfl⟩ : ∃ m', m = m' + 1 := ⟨m - 1, by omega⟩
    unfold roundsN at hr
    split at hr
    · rename_i vs' hv
      unfold iter
      unfold round1 at hv
      refine codeK_then (Q := fun p r => p = vs' ∧ r = (ex1, st1)) c _ _ _ ?_ _ _ hv ⟨rfl, rfl⟩
      intro ex' st' r r' he hq
      obtain ⟨rfl, rfl⟩ := hq
      cases ex' with
      | norm =>
        simp only at he ⊢
        rw [he]
        exact ihn _ hr m (by omega)
      | exit id => cases he
      | ret => cases he
    · cases hr

/-- a body's end -/
def lastK (f : DFun) (ex : Ex) (st : St) : Option (List D) := match ex with | .exit _ => none | _ => finish f st
theorem body_cut {f : DFun} {args l : List D} {st : St} (h : enter f args = some st) (h1 : codeK E k f.body st (lastK f) = some l) : dbody f E k args = some l := by
  unfold dbody
  simp only [h]
  exact h1

/-! the parts of a code -/
def seqL : List DCode → DCode → DCode
  | [], r => r
  | a :: l, r => .seq a (seqL l r)
def hdC : DCode → DCode
  | .seq a _ => a
  | c => c
def tlC : Nat → DCode → DCode
  | 0, c => c
  | n + 1, .seq _ b => tlC n b
  | _ + 1, c => c
def takeC : Nat → DCode → List DCode
  | n + 1, .seq a b => a :: takeC n b
  | _, _ => []
def loopSh : DCode → Shape
  | .seq _ (.block _ (.loop sh _)) => sh
  | _ => ⟨[], [], []⟩
def loopC : DCode → DCode
  | .seq _ (.block _ (.loop _ c)) => c
  | c => c
theorem seqL_cut {R : Type} {rest : DCode} {K : Ex → St → Option R} {r : R} {st1 : St} (h2 : codeK E k rest st1 K = some r) : ∀ (l : List DCode) (st : St), codeK E k (seqL l .skip) st ret = some (.norm, st1) → codeK E k (seqL l rest) st K = some r
  | [], st, h => by
    unfold seqL codeK ret at h
    cases h
    exact h2
  | a :: l, st, h => by
    unfold seqL at h ⊢
    unfold codeK at h ⊢
    refine codeK_then (Q := fun p r' => p = (.norm, st1) ∧ r' = r) a st _ _ ?_ _ _ h ⟨rfl, rfl⟩
    intro ex st' p r' he hq
    obtain ⟨rfl, rfl⟩ := hq
    cases ex with
    | norm => exact seqL_cut h2 l st' he
    | exit id => cases he
    | ret => cases he

end
end Go.Proofs.Ytmfhhbiaghejjaa.GD

namespace Go.Proofs.Ytmfhhbiaghejjaa.GD
open Go
set_option linter.unusedVariables false
set_option linter.unusedSimpArgs false

section
variable {ty : TypeId → Option Vk} {tab : FuncId → Option Entry}

theorem cl_body {g : FuncId} {f : DFun} (hg : tab g = some (.code f)) {l r : List D} (k : Nat) (he : dbody f (envOf ty tab (Cl ty tab)) k l = some r) : Cl ty tab g l = some r := Cl_eq.2 (Ev.body hg k he)

theorem lawTrue_of {g : FuncId} {ks : List Vk} (h : ∀ dd : List D, fitsV ks dd = true → (∀ d, d ∈ dd → WT ty d) → Cl ty tab g dd = some [.bool true]) : LawTrue ty tab g ks :=
  fun dd h1 h2 => Cl_eq.1 (h dd h1 h2)
end

/-- a loop: from state s on it gives val s -/
theorem iter_wf {R σ : Type} {F : List D → (List D → Option R) → Option R} (enc : σ → List D) (val : σ → Option R) (m : σ → Nat) (inv : σ → Prop)
    (step : ∀ s, inv s → ∀ again, (∀ s', inv s' → m s' < m s → again (enc s') = val s') → F (enc s) again = val s) : ∀ (k : Nat) (s : σ), inv s → m s < k → iter k F (enc s) = val s
  | 0, s, _, hk => by omega
  | k + 1, s, hs, hk => by
    unfold iter
    exact step s hs _ fun s' hs' hm => iter_wf enc val m inv step k s' hs' (by omega)

/-- a loop over a list, by its index: what is left to do from place i on -/
theorem iter_ix {R : Type} {F : List D → (List D → Option R) → Option R} (n : Nat) (enc : Nat → List D) (val : Nat → Option R)
    (step : ∀ i, i < n → ∀ again, again (enc (i + 1)) = val (i + 1) → F (enc i) again = val i) (fin : ∀ again, F (enc n) again = val n) (k : Nat) (hk : n < k) (i : Nat) (hi : i ≤ n) : iter k F (enc i) = val i := by
  refine iter_wf enc val (fun i => n - i) (fun i => i ≤ n) (fun s hs again h => ?_) k i hi (by omega)
  rcases Nat.lt_or_ge s n with h1 | h1
  · exact step s h1 again (h (s + 1) (by omega) (by omega))
  · have : s = n := by omega
    subst this
    exact fin again

/-- a loop over a list, by what is left of it -/
theorem iter_list {R α : Type} {F : List D → (List D → Option R) → Option R} (l : List α) (enc : Nat → List D) (val : List α → Option R)
    (step : ∀ i (hi : i < l.length), ∀ again, again (enc (i + 1)) = val (l.drop (i + 1)) → F (enc i) again = val (l[i] :: l.drop (i + 1))) (fin : ∀ again, F (enc l.length) again = val []) (k : Nat) (hk : l.length < k) : iter k F (enc 0) = val l := by
  have := iter_ix (F := F) l.length enc (fun i => val (l.drop i)) (fun i hi again h => by
    rw [List.drop_eq_getElem_cons hi]; exact step i hi again h) (fun again => by rw [List.drop_length]; exact fin again) k hk 0 (by omega)
  simpa using this

/-- data of one form, as a list of what they tell -/
theorem decode_list {α : Type} {f : α → D} {Q : α → Prop} : ∀ {els : List D}, (∀ d, d ∈ els → ∃ a, d = f a ∧ Q a) → ∃ L : List α, els = L.map f ∧ ∀ a, a ∈ L → Q a
  | [], _ => ⟨[], rfl, fun a h => by cases h⟩
  | d :: els, h => by
    obtain ⟨a, rfl, hq⟩ := h d (List.mem_cons_self ..)
    obtain ⟨L, rfl, hL⟩ := decode_list (els := els) fun d hd => h d (List.mem_cons_of_mem _ hd)
    exact ⟨a :: L, rfl, fun b hb => by
      rcases List.mem_cons.1 hb with rfl | hb
      · exact hq
      · exact hL b hb⟩

/-- more rounds than any list is long -/
theorem rounds : ∃ k : Nat, 9223372036854775808 < k := ⟨_, Nat.lt_succ_self _⟩

@[simp] theorem cell_int (k : IntKind) (n : Int) : (D.int k n).cell 0 = .int k n := rfl
@[simp] theorem cell_bool (b : Bool) : (D.bool b).cell 0 = .bool b := rfl
@[simp] theorem cell_str (s : ByteArray) : (D.str s).cell 0 = .str s := rfl
@[simp] theorem cell_sl (e : TypeId) (nb : Bool) (l : List D) : (D.sl e nb l).cell 0 = .sl e nb l := rfl
@[simp] theorem cell_agg (cs : List D) (j : Nat) : (D.agg cs).cell j = cs.getD j .undef := rfl
@[simp] theorem i_int (k : IntKind) (n : Int) : (D.int k n).i = n := rfl
@[simp] theorem b_bool (b : Bool) : (D.bool b).b = b := rfl
@[simp] theorem s_str (s : ByteArray) : (D.str s).s = s := rfl
@[simp] theorem nb_sl (e : TypeId) (nb : Bool) (l : List D) : (D.sl e nb l).nb = nb := rfl
@[simp] theorem els_sl (e : TypeId) (nb : Bool) (l : List D) : (D.sl e nb l).els = l := rfl
@[simp] theorem nb_ov (e : TypeId) (nb : Bool) (l : List D) : (D.ov e nb l).nb = nb := rfl
@[simp] theorem els_ov (e : TypeId) (nb : Bool) (l : List D) : (D.ov e nb l).els = l := rfl
@[simp] theorem cs_pv (l : List D) : (D.pv l).cs = l := rfl
@[simp] theorem cs_agg (l : List D) : (D.agg l).cs = l := rfl

theorem getD_map {α : Type} {f : α → D} {l : List α} {i : Nat} (h : i < l.length) : (l.map f).getD i .undef = f l[i] := by
  simp [List.getD_eq_getElem?_getD, h]

def eqC : D → D → Bool
  | .int _ a, .int _ b => a == b
  | .bool a, .bool b => a == b
  | .str a, .str b => a.toList == b.toList
  | _, _ => true
/-- are cells alike -/
def eqCells : List D → List D → Bool
  | [x], [y] => eqC x y
  | x :: xs, y :: ys => eqC x y && eqCells xs ys
  | _, _ => true

theorem wrap64 {n : Int} (h1 : -9223372036854775808 ≤ n) (h2 : n ≤ 9223372036854775807) : IntKind.i64.wrap n = n := by
  rw [IntKind.wrap_i64]; omega


theorem cp {α : Type} {p : Prop} [Decidable p] {a b : α} (h : p) : (bif decide p then a else b) = a := by simp [h]
theorem cn {α : Type} {p : Prop} [Decidable p] {a b : α} (h : ¬ p) : (bif decide p then a else b) = b := by simp [h]
theorem cnp {α : Type} {p : Prop} [Decidable p] {a b : α} (h : p) : (bif !decide p then a else b) = b := by simp [h]
theorem cnn {α : Type} {p : Prop} [Decidable p] {a b : α} (h : ¬ p) : (bif !decide p then a else b) = a := by simp [h]
theorem ct {α : Type} {a b : α} : (bif true then a else b) = a := rfl
theorem cf {α : Type} {a b : α} : (bif false then a else b) = b := rfl
theorem beqd (a b : Int) : (a == b) = decide (a = b) := by by_cases h : a = b <;> simp [h]
theorem bned (a b : Int) : (a != b) = decide (a ≠ b) := by by_cases h : a = b <;> simp [h]
theorem c2 {i : Nat} {n : Int} (h : n = i) (h1 : n.toNat = i) : n.toNat = i := h1
theorem toNat_sub1 {i : Nat} (h : 1 ≤ i) : ((i : Int) - 1).toNat = i - 1 := by omega
theorem toNat_add1 (i : Nat) : ((i : Int) + 1).toNat = i + 1 := by omega
theorem dT {p : Prop} [Decidable p] (h : p) : decide p = true := by simp [h]
theorem dF {p : Prop} [Decidable p] (h : ¬ p) : decide p = false := by simp [h]

theorem mid {i j : Nat} (h1 : i ≤ j) (h2 : j ≤ 9223372036854775807) : IntKind.i64.wrap (Int.fdiv (IntKind.u64.wrap (IntKind.i64.wrap ((i : Int) + (j : Int)))) (2 ^ 1)) = (((i + j) / 2 : Nat) : Int) := by
  have e1 : IntKind.u64.wrap (IntKind.i64.wrap ((i : Int) + (j : Int))) = (i : Int) + j := by
    have e2 : ∀ n : Int, IntKind.u64.wrap n = n % 18446744073709551616 := fun n => by simp [IntKind.wrap, IntKind.bits, IntKind.signed]
    rw [e2, IntKind.wrap_i64]
    omega
  rw [e1, Int.fdiv_eq_ediv_of_nonneg _ (by omega)]
  rw [wrap64 (by omega) (by omega)]
  omega

theorem fitsV_cons {k : Vk} {ks : List Vk} {dd : List D} (h : fitsV (k :: ks) dd = true) : ∃ d ds, dd = d :: ds ∧ k.fits d = true ∧ fitsV ks ds = true := by
  cases dd with
  | nil => cases h
  | cons d ds => simp only [fitsV, Bool.and_eq_true] at h; exact ⟨d, ds, rfl, h.1, h.2⟩
theorem fitsV_nil {dd : List D} (h : fitsV [] dd = true) : dd = [] := by
  cases dd with
  | nil => rfl
  | cons d ds => cases h
theorem fitsL_cons {k : Sk} {ks : List Sk} {dd : List D} (h : fitsL (k :: ks) dd = true) : ∃ d ds, dd = d :: ds ∧ fits k d = true ∧ fitsL ks ds = true := by
  cases dd with
  | nil => cases h
  | cons d ds => simp only [fitsL, Bool.and_eq_true] at h; exact ⟨d, ds, rfl, h.1, h.2⟩
theorem fitsL_nil {dd : List D} (h : fitsL [] dd = true) : dd = [] := by
  cases dd with
  | nil => rfl
  | cons d ds => cases h
theorem fits_one {s : Sk} {d : D} (h : Vk.fits ⟨false, [s]⟩ d = true) : fits s d = true := by
  simpa [Vk.fits, fitsL] using h
theorem fits_agg {ks : List Sk} {d : D} (h : Vk.fits ⟨true, ks⟩ d = true) : ∃ cs, d = .agg cs ∧ fitsL ks cs = true := by
  cases d <;> simp [Vk.fits] at h
  exact ⟨_, rfl, h⟩
theorem fits_sl {e : TypeId} {d : D} (h : fits (.sl e) d = true) : ∃ nb els, d = .sl e nb els := by
  cases d <;> simp [fits] at h
  subst h; exact ⟨_, _, rfl⟩
theorem fits_int {k : IntKind} {d : D} (h : fits (.int k) d = true) : ∃ n, d = .int k n := by
  cases d <;> simp [fits] at h
  subst h; exact ⟨_, rfl⟩
theorem fits_bool {d : D} (h : fits .bool d = true) : ∃ b, d = .bool b := by
  cases d <;> simp [fits] at h
  exact ⟨_, rfl⟩
theorem fits_str {d : D} (h : fits .str d = true) : ∃ s, d = .str s := by
  cases d <;> simp [fits] at h
  exact ⟨_, rfl⟩
theorem WT.cells {ty : TypeId → Option Vk} {cs : List D} (h : WT ty (.agg cs)) : ∀ d, d ∈ cs → WT ty d := by cases h with | agg _ h => exact h
theorem WT.els {ty : TypeId → Option Vk} {e : TypeId} {nb : Bool} {els : List D} (h : WT ty (.sl e nb els)) : els.length ≤ 9223372036854775807 ∧ (nb = true → els = []) ∧ (∀ k, ty e = some k → ∀ d, d ∈ els → k.fits d = true) ∧ ∀ d, d ∈ els → WT ty d := by
  cases h with | sl _ _ _ h1 h2 h3 h4 => exact ⟨by simpa [maxLen] using h1, h2, h3, h4⟩
theorem WT.rng {ty : TypeId → Option Vk} {k : IntKind} {n : Int} (h : WT ty (.int k n)) : k.min ≤ n ∧ n ≤ k.max := by
  cases h with | int _ _ h => simpa [Lit.wf] using h
theorem WT.ssz {ty : TypeId → Option Vk} {s : ByteArray} (h : WT ty (.str s)) : s.size ≤ 9223372036854775807 := by
  cases h with | str _ h => simpa [maxLen] using h

theorem getD_get {l : List D} {i : Nat} (h : i < l.length) : l.getD i .undef = l[i] := by simp [List.getD_eq_getElem?_getD, h]

theorem eta_of {s : Sk} {d : D} (h : fits s d = true) : eta s d = d := by
  cases s <;> cases d <;> simp [fits] at h <;> first | (subst h; rfl) | rfl

theorem fits_eta (s : Sk) (d : D) : fits s (eta s d) = true := by cases s <;> simp [eta, fits]

theorem fitsL_eta : ∀ (ks : List Sk) (d : D) (j : Nat), fitsL ks (etaCells ks d j) = true
  | [], _, _ => rfl
  | k :: ks, d, j => by simp only [etaCells, fitsL, fits_eta, fitsL_eta ks d (j + 1), Bool.and_self]

theorem etaCells_of : ∀ (ks : List Sk) (cs pre : List D), fitsL ks cs = true → etaCells ks (.agg (pre ++ cs)) pre.length = cs
  | [], cs, pre, h => (fitsL_nil h).symm
  | k :: ks, cs, pre, h => by
    obtain ⟨d, ds, rfl, h1, h2⟩ := fitsL_cons h
    have := etaCells_of ks ds (pre ++ [d]) h2
    rw [List.append_assoc, List.singleton_append, List.length_append, List.length_singleton] at this
    have e : (D.agg (pre ++ d :: ds)).cell pre.length = d := by simp [D.cell, List.getD_eq_getElem?_getD]
    rw [etaCells, e, eta_of h1, this]

theorem etaList_of : ∀ (ks : List Sk) (cs pre : List D), fitsL ks cs = true → etaList ks (pre ++ cs) pre.length = cs
  | [], cs, pre, h => (fitsL_nil h).symm
  | k :: ks, cs, pre, h => by
    obtain ⟨d, ds, rfl, h1, h2⟩ := fitsL_cons h
    have := etaList_of ks ds (pre ++ [d]) h2
    rw [List.append_assoc, List.singleton_append, List.length_append, List.length_singleton] at this
    have e : (pre ++ d :: ds).getD pre.length .undef = d := by simp [List.getD_eq_getElem?_getD]
    rw [etaList, e, eta_of h1, this]

theorem eta_fit {ks : List Sk} {d : D} (h : Vk.fits ⟨true, ks⟩ d = true) : D.agg (etaCells ks d 0) = d := by
  obtain ⟨cs, rfl, h⟩ := fits_agg h
  rw [show etaCells ks (.agg cs) 0 = cs from etaCells_of ks cs [] h]

theorem etaList_eta (ks : List Sk) (d : D) (j : Nat) : etaList ks (etaCells ks d j) 0 = etaCells ks d j := etaList_of ks _ [] (fitsL_eta ks d j)

/-- are lists of cells that lead to no memory alike -/
theorem eqCells_refl : ∀ (l : List D), eqCells l l = true
  | [] => rfl
  | [x] => by cases x <;> simp [eqCells, eqC]
  | x :: y :: l => by
    have := eqCells_refl (y :: l)
    simp only [eqCells, this, Bool.and_true]
    cases x <;> simp [eqC]

theorem eqCells_int {k : IntKind} : ∀ (l m : List D) (n : Nat), fitsL (List.replicate n (.int k)) l = true → fitsL (List.replicate n (.int k)) m = true → (eqCells l m = true ↔ l = m)
  | l, m, 0, h1, h2 => by rw [fitsL_nil h1, fitsL_nil h2]; simp [eqCells]
  | l, m, n + 1, h1, h2 => by
    rw [List.replicate_succ] at h1 h2
    obtain ⟨x, l, rfl, a1, a2⟩ := fitsL_cons h1
    obtain ⟨y, m, rfl, b1, b2⟩ := fitsL_cons h2
    obtain ⟨i, rfl⟩ := fits_int a1
    obtain ⟨j, rfl⟩ := fits_int b1
    have ih := eqCells_int l m n a2 b2
    have hl := (fitsL_spec a2).1
    have hm := (fitsL_spec b2).1
    cases l with
    | nil =>
      cases m with
      | nil => simp [eqCells, eqC]
      | cons z m => simp at hl hm; omega
    | cons w l =>
      cases m with
      | nil => simp at hl hm; omega
      | cons z m =>
        simp only [eqCells, Bool.and_eq_true, ih, eqC, beq_iff_eq, List.cons.injEq, D.int.injEq, true_and]

/-! the order of strings -/
theorem bl_irrefl : ∀ (a : List UInt8), Op.bytesLess a a = false
  | [] => rfl
  | x :: a => by simp [Op.bytesLess, bl_irrefl a]
theorem bl_trans : ∀ {a b c : List UInt8}, Op.bytesLess a b = true → Op.bytesLess b c = true → Op.bytesLess a c = true
  | _, [], _, h, _ => by cases ‹List UInt8› <;> simp [Op.bytesLess] at h
  | _, _ :: _, [], _, h => by simp [Op.bytesLess] at h
  | [], _ :: _, _ :: _, _, _ => rfl
  | x :: a, y :: b, z :: c, h1, h2 => by
    simp only [Op.bytesLess, Bool.or_eq_true, decide_eq_true_eq, Bool.and_eq_true, beq_iff_eq] at h1 h2 ⊢
    rcases h1 with h1 | ⟨rfl, h1⟩
    · rcases h2 with h2 | ⟨rfl, h2⟩
      · exact .inl (UInt8.lt_trans h1 h2)
      · exact .inl h1
    · rcases h2 with h2 | ⟨rfl, h2⟩
      · exact .inl h2
      · exact .inr ⟨rfl, bl_trans h1 h2⟩
theorem bl_tri : ∀ (a b : List UInt8), Op.bytesLess a b = false → Op.bytesLess b a = false → a = b
  | [], [], _, _ => rfl
  | [], _ :: _, h, _ => by simp [Op.bytesLess] at h
  | _ :: _, [], _, h => by simp [Op.bytesLess] at h
  | x :: a, y :: b, h1, h2 => by
    simp only [Op.bytesLess, Bool.or_eq_false_iff, decide_eq_false_iff_not, Bool.and_eq_false_imp, beq_iff_eq] at h1 h2
    have e : x = y := by
      rcases UInt8.lt_or_lt_of_ne (a := x) (b := y) |> fun f => Classical.em (x = y) with h | h
      · exact h
      · rcases UInt8.lt_or_lt_of_ne h with h | h
        · exact absurd h h1.1
        · exact absurd h h2.1
    subst e
    rw [bl_tri a b (h1.2 rfl) (h2.2 rfl)]
theorem bl_asymm {a b : List UInt8} (h : Op.bytesLess a b = true) : Op.bytesLess b a = false := by
  cases h2 : Op.bytesLess b a with
  | false => rfl
  | true => have := bl_trans h h2; rw [bl_irrefl] at this; cases this

end Go.Proofs.Ytmfhhbiaghejjaa.GD

