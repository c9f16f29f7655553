import Derived.Test.YtmfhhbiaghejjaaD
namespace Go.Proofs.Ytmfhhbiaghejjaa.Own
open Go Go.Proofs.Ytmfhhbiaghejjaa.GD
set_option linter.unusedVariables false
set_option linter.unusedSimpArgs false

def look (l : List D) (u : List UInt8) : Option D := l.find? fun d => uri d == u

theorem look_cons (d : D) (t : List D) (u : List UInt8) : look (d :: t) u = if uri d = u then some d else look t u := by
  unfold look
  rw [List.find?_cons]
  by_cases h : uri d = u
  · rw [if_pos h, beq_iff_eq.2 h]
  · rw [if_neg h, beq_eq_false_iff_ne.2 h]

theorem look_nil (u : List UInt8) : look [] u = none := rfl

theorem look_lt {l : List D} {u : List UInt8} (h : ∀ d, d ∈ l → Op.bytesLess u (uri d) = true) : look l u = none := by
  unfold look
  rw [List.find?_eq_none]
  intro d hd e
  have h1 := h d hd
  have e : uri d = u := by simpa using e
  rw [e, bl_irrefl] at h1
  cases h1

theorem look_mem {l : List D} {u : List UInt8} {d : D} (h : look l u = some d) : d ∈ l ∧ uri d = u :=
  ⟨List.mem_of_find?_eq_some h, by simpa using List.find?_some h⟩

theorem look_of_mem : ∀ {l : List D}, Asc l → ∀ {d}, d ∈ l → look l (uri d) = some d
  | x :: l, h, d, hd => by
    obtain ⟨a1, a2⟩ := List.pairwise_cons.1 h
    rw [look_cons]
    rcases List.mem_cons.1 hd with rfl | hd
    · rw [if_pos rfl]
    · rw [if_neg]
      · exact look_of_mem a2 hd
      · intro e
        have := a1 d hd
        rw [e, bl_irrefl] at this
        cases this

theorem asc_ext : ∀ {l m : List D}, Asc l → Asc m → (∀ u, look l u = look m u) → l = m
  | [], [], _, _, _ => rfl
  | [], y :: m, _, _, h => by have := h (uri y); rw [look_cons, if_pos rfl] at this; cases this
  | x :: l, [], _, _, h => by have := h (uri x); rw [look_cons, if_pos rfl] at this; cases this
  | x :: l, y :: m, h1, h2, h => by
    obtain ⟨a1, a2⟩ := List.pairwise_cons.1 h1
    obtain ⟨b1, b2⟩ := List.pairwise_cons.1 h2
    have e : uri x = uri y := by
      refine bl_tri _ _ ?_ ?_
      · cases c : Op.bytesLess (uri x) (uri y) with
        | false => rfl
        | true =>
          have := h (uri x)
          rw [look_cons, if_pos rfl, look_lt (l := y :: m) (fun d hd => by rcases List.mem_cons.1 hd with rfl | hd; exact c; exact bl_trans c (b1 d hd))] at this
          cases this
      · cases c : Op.bytesLess (uri y) (uri x) with
        | false => rfl
        | true =>
          have := h (uri y)
          rw [look_cons y, if_pos rfl, look_lt (l := x :: l) (fun d hd => by rcases List.mem_cons.1 hd with rfl | hd; exact c; exact bl_trans c (a1 d hd))] at this
          cases this
    have e2 : x = y := by
      have := h (uri x)
      rw [look_cons, look_cons, if_pos rfl, if_pos e.symm] at this
      exact Option.some.inj this
    subst e2
    congr 1
    refine asc_ext a2 b2 fun u => ?_
    by_cases hu : uri x = u
    · subst hu; rw [look_lt a1, look_lt b1]
    · have := h u
      rwa [look_cons, look_cons, if_neg hu, if_neg hu] at this

/-! joining two records -/
def cmpt (x y : D) : Bool := eqCells (hsh x) (hsh y) && ((frm x == frm y) && (til x == til y))
def joinF (x y : D) : Option D :=
  if num y < num x then some x else if num x < num y then some y else if cmpt x y = true then some (if seen x < seen y then y else x) else none
def newer (x y : D) : Prop := num x < num y ∨ num x = num y ∧ seen x < seen y
instance (x y : D) : Decidable (newer x y) := by unfold newer; infer_instance

theorem joinF_some {x y w : D} (h : joinF x y = some w) : w = if newer x y then y else x := by
  have hn : newer x y ↔ (num x < num y ∨ num x = num y ∧ seen x < seen y) := Iff.rfl
  unfold joinF at h
  split at h
  · rw [if_neg (fun e => by have := hn.1 e; omega)]; exact (Option.some.inj h).symm
  · split at h
    · rw [if_pos (hn.2 (by omega))]; exact (Option.some.inj h).symm
    · split at h
      · have := (Option.some.inj h).symm
        rw [this]
        by_cases c : seen x < seen y
        · rw [if_pos c, if_pos (hn.2 (by omega))]
        · rw [if_neg c, if_neg (fun e => by have := hn.1 e; omega)]
      · cases h

theorem joinF_mem {x y w : D} (h : joinF x y = some w) : w = x ∨ w = y := by
  rw [joinF_some h]; split <;> simp

def comb (o p : Option D) : Option D := match o, p with
  | none, p => p
  | some x, none => some x
  | some x, some y => joinF x y

theorem comb_none (o : Option D) : comb o none = o := by cases o <;> rfl

def zipF : List D → List D → Option (List D)
  | [], b => some b
  | x :: a, [] => some (x :: a)
  | x :: a, y :: b =>
    if Op.bytesLess (uri x) (uri y) = true then (zipF a (y :: b)).map (x :: ·)
    else if Op.bytesLess (uri y) (uri x) = true then (zipF (x :: a) b).map (y :: ·)
    else match joinF x y with
      | none => none
      | some w => (zipF a b).map (w :: ·)
termination_by a b => a.length + b.length

structure Zip (a b z : List D) : Prop where
  asc : Asc z
  lk : ∀ u, look z u = comb (look a u) (look b u)
  low : ∀ u, (∀ d, d ∈ a → Op.bytesLess u (uri d) = true) → (∀ d, d ∈ b → Op.bytesLess u (uri d) = true) → ∀ d, d ∈ z → Op.bytesLess u (uri d) = true
  ok : ∀ u x y, look a u = some x → look b u = some y → joinF x y ≠ none
  mem : ∀ d, d ∈ z → d ∈ a ∨ d ∈ b
  len : z.length ≤ a.length + b.length

theorem zip_some : ∀ (a b z : List D), Asc a → Asc b → zipF a b = some z → Zip a b z
  | [], b, z, ha, hb, h => by
    rw [zipF] at h
    cases h
    exact ⟨hb, fun u => rfl, fun u _ h => h, fun u x y h => (by rw [look_nil] at h; cases h), fun d h => .inr h, by simp⟩
  | x :: a, [], z, ha, hb, h => by
    rw [zipF] at h
    cases h
    exact ⟨ha, fun u => by rw [look_nil, comb_none], fun u h _ => h, fun u x y _ h => (by rw [look_nil] at h; cases h), fun d h => .inl h, by simp⟩
  | x :: a, y :: b, z, ha, hb, h => by
    obtain ⟨a1, a2⟩ := List.pairwise_cons.1 ha
    obtain ⟨b1, b2⟩ := List.pairwise_cons.1 hb
    rw [zipF] at h
    split at h
    · rename_i c
      obtain ⟨z', h2, rfl⟩ := Option.map_eq_some_iff.1 h
      have ih := zip_some a (y :: b) z' a2 hb h2
      have hx : ∀ d, d ∈ y :: b → Op.bytesLess (uri x) (uri d) = true := fun d hd => by
        rcases List.mem_cons.1 hd with rfl | hd
        · exact c
        · exact bl_trans c (b1 d hd)
      refine ⟨List.Pairwise.cons (fun d hd => ih.low _ a1 hx d hd) ih.asc, fun u => ?_, fun u g1 g2 d hd => ?_, fun u x' y' e1 e2 => ?_, fun d hd => ?_, by have := ih.len; simp at this ⊢; omega⟩
      · rw [look_cons x z', look_cons x a]
        by_cases e : uri x = u
        · subst e; rw [if_pos rfl, if_pos rfl, look_lt hx]; rfl
        · rw [if_neg e, if_neg e]; exact ih.lk u
      · rcases List.mem_cons.1 hd with rfl | hd
        · exact g1 _ (List.mem_cons_self ..)
        · exact ih.low u (fun d hd => g1 d (List.mem_cons_of_mem _ hd)) g2 d hd
      · rw [look_cons x a] at e1
        by_cases e : uri x = u
        · subst e; rw [look_lt hx] at e2; cases e2
        · rw [if_neg e] at e1; exact ih.ok u x' y' e1 e2
      · rcases List.mem_cons.1 hd with rfl | hd
        · exact .inl (List.mem_cons_self ..)
        · rcases ih.mem d hd with h | h
          · exact .inl (List.mem_cons_of_mem _ h)
          · exact .inr h
    · rename_i c1
      split at h
      · rename_i c
        obtain ⟨z', h2, rfl⟩ := Option.map_eq_some_iff.1 h
        have ih := zip_some (x :: a) b z' ha b2 h2
        have hx : ∀ d, d ∈ x :: a → Op.bytesLess (uri y) (uri d) = true := fun d hd => by
          rcases List.mem_cons.1 hd with rfl | hd
          · exact c
          · exact bl_trans c (a1 d hd)
        refine ⟨List.Pairwise.cons (fun d hd => ih.low _ hx b1 d hd) ih.asc, fun u => ?_, fun u g1 g2 d hd => ?_, fun u x' y' e1 e2 => ?_, fun d hd => ?_, by have := ih.len; simp at this ⊢; omega⟩
        · rw [look_cons y z', look_cons y b]
          by_cases e : uri y = u
          · subst e; rw [if_pos rfl, if_pos rfl, look_lt hx]; rfl
          · rw [if_neg e, if_neg e]; exact ih.lk u
        · rcases List.mem_cons.1 hd with rfl | hd
          · exact g2 _ (List.mem_cons_self ..)
          · exact ih.low u g1 (fun d hd => g2 d (List.mem_cons_of_mem _ hd)) d hd
        · rw [look_cons y b] at e2
          by_cases e : uri y = u
          · subst e; rw [look_lt hx] at e1; cases e1
          · rw [if_neg e] at e2; exact ih.ok u x' y' e1 e2
        · rcases List.mem_cons.1 hd with rfl | hd
          · exact .inr (List.mem_cons_self ..)
          · rcases ih.mem d hd with h | h
            · exact .inl h
            · exact .inr (List.mem_cons_of_mem _ h)
      · rename_i c2
        have e0 : uri x = uri y := bl_tri _ _ (by simpa using c1) (by simpa using c2)
        cases j : joinF x y with
        | none => rw [j] at h; cases h
        | some w =>
          rw [j] at h
          obtain ⟨z', h2, rfl⟩ := Option.map_eq_some_iff.1 h
          have ih := zip_some a b z' a2 b2 h2
          have ew : uri w = uri x := by
            rcases joinF_mem j with rfl | rfl
            · rfl
            · exact e0.symm
          have ws : w = x ∨ w = y := joinF_mem j
          refine ⟨List.Pairwise.cons (fun d hd => ih.low _ (by rw [ew]; exact a1) (by rw [ew, e0]; exact b1) d hd) ih.asc, fun u => ?_, fun u g1 g2 d hd => ?_, fun u x' y' e1 e2 => ?_, fun d hd => ?_, by have := ih.len; simp at this ⊢; omega⟩
          · rw [look_cons w z', look_cons x a, look_cons y b, ew, ← e0]
            by_cases e : uri x = u
            · rw [if_pos e, if_pos e, if_pos e]; exact j.symm
            · rw [if_neg e, if_neg e, if_neg e]; exact ih.lk u
          · rcases List.mem_cons.1 hd with rfl | hd
            · rw [ew]; exact g1 _ (List.mem_cons_self ..)
            · exact ih.low u (fun d hd => g1 d (List.mem_cons_of_mem _ hd)) (fun d hd => g2 d (List.mem_cons_of_mem _ hd)) d hd
          · rw [look_cons x a] at e1
            rw [look_cons y b, ← e0] at e2
            by_cases e : uri x = u
            · rw [if_pos e] at e1 e2
              cases e1
              cases e2
              rw [j]
              simp
            · rw [if_neg e] at e1 e2; exact ih.ok u x' y' e1 e2
          · rcases List.mem_cons.1 hd with rfl | hd
            · rcases ws with rfl | rfl
              · exact .inl (List.mem_cons_self ..)
              · exact .inr (List.mem_cons_self ..)
            · rcases ih.mem d hd with h | h
              · exact .inl (List.mem_cons_of_mem _ h)
              · exact .inr (List.mem_cons_of_mem _ h)
termination_by a b => a.length + b.length

theorem zip_none : ∀ (a b : List D), Asc a → Asc b → zipF a b = none → ∃ u x y, look a u = some x ∧ look b u = some y ∧ joinF x y = none
  | [], b, ha, hb, h => by rw [zipF] at h; cases h
  | x :: a, [], ha, hb, h => by rw [zipF] at h; cases h
  | x :: a, y :: b, ha, hb, h => by
    obtain ⟨a1, a2⟩ := List.pairwise_cons.1 ha
    obtain ⟨b1, b2⟩ := List.pairwise_cons.1 hb
    have up : ∀ {l : List D} {s : List UInt8} {u x'}, (∀ d, d ∈ l → Op.bytesLess s (uri d) = true) → look l u = some x' → ¬ s = u := fun hl hu e => by
      subst e; rw [look_lt hl] at hu; cases hu
    rw [zipF] at h
    split at h
    · obtain ⟨u, x', y', e1, e2, e3⟩ := zip_none a (y :: b) a2 hb (by simpa using h)
      exact ⟨u, x', y', by rw [look_cons, if_neg (up a1 e1)]; exact e1, e2, e3⟩
    · rename_i c1
      split at h
      · obtain ⟨u, x', y', e1, e2, e3⟩ := zip_none (x :: a) b ha b2 (by simpa using h)
        exact ⟨u, x', y', e1, by rw [look_cons, if_neg (up b1 e2)]; exact e2, e3⟩
      · rename_i c2
        have e0 : uri x = uri y := bl_tri _ _ (by simpa using c1) (by simpa using c2)
        cases j : joinF x y with
        | none => exact ⟨uri x, x, y, by rw [look_cons, if_pos rfl], by rw [look_cons, if_pos e0.symm], j⟩
        | some w =>
          rw [j] at h
          obtain ⟨u, x', y', e1, e2, e3⟩ := zip_none a b a2 b2 (by simpa using h)
          exact ⟨u, x', y', by rw [look_cons, if_neg (up a1 e1)]; exact e1, by rw [look_cons, if_neg (up b1 e2)]; exact e2, e3⟩
termination_by a b => a.length + b.length

/-! putting a record in its place -/
def putF : List D → D → List D
  | [], x => [x]
  | d :: t, x => if Op.bytesLess (uri d) (uri x) = true then d :: putF t x else x :: dropP (d :: t) (uri x)

theorem putF_mem {x d : D} : ∀ {l : List D}, d ∈ putF l x → d = x ∨ d ∈ l
  | [], h => by simpa [putF] using h
  | y :: t, h => by
    unfold putF at h
    split at h
    · rcases List.mem_cons.1 h with rfl | h
      · simp
      · rcases putF_mem h with h | h
        · exact .inl h
        · exact .inr (List.mem_cons_of_mem _ h)
    · rcases List.mem_cons.1 h with rfl | h
      · simp
      · exact .inr (List.mem_filter.1 h).1

theorem putF_len (x : D) : ∀ l : List D, (putF l x).length ≤ l.length + 1
  | [] => by simp [putF]
  | y :: t => by
    unfold putF
    have := putF_len x t
    have := dropP_len (y :: t) (uri x)
    split <;> simp at * <;> omega

theorem putF_ne (x : D) (l : List D) : (putF l x).isEmpty = false := by
  cases l with
  | nil => rfl
  | cons y t => unfold putF; split <;> rfl

theorem look_drop (s u : List UInt8) : ∀ l : List D, look (dropP l s) u = if u = s then none else look l u
  | [] => by simp [dropP, look]
  | d :: t => by
    have ih := look_drop s u t
    unfold dropP at ih ⊢
    rw [List.filter_cons, look_cons]
    by_cases h : uri d = s
    · rw [if_neg (by simp [h]), ih]
      by_cases h2 : u = s
      · rw [if_pos h2, if_pos h2]
      · rw [if_neg h2, if_neg h2, if_neg (by rw [h]; exact fun e => h2 e.symm)]
    · rw [if_pos (by simp [h]), look_cons, ih]
      by_cases h2 : u = s
      · rw [if_pos h2, if_pos h2, if_neg (by rw [h2]; exact h)]
      · rw [if_neg h2, if_neg h2]

theorem look_put (x : D) (u : List UInt8) : ∀ {l : List D}, look (putF l x) u = if uri x = u then some x else look l u
  | [] => by rw [putF, look_cons]
  | y :: t => by
    unfold putF
    split
    · rename_i c
      rw [look_cons, look_put x u, look_cons]
      by_cases h : uri x = u
      · rw [if_pos h, if_pos h, if_neg (fun e => by rw [e, h, bl_irrefl] at c; cases c)]
      · rw [if_neg h, if_neg h]
    · rw [look_cons, look_drop]
      by_cases h : uri x = u
      · rw [if_pos h, if_pos h]
      · rw [if_neg h, if_neg h, if_neg (fun e => h e.symm)]

theorem put_asc (x : D) : ∀ {l : List D}, Asc l → Asc (putF l x)
  | [], _ => List.pairwise_singleton _ _
  | y :: t, h => by
    obtain ⟨a1, a2⟩ := List.pairwise_cons.1 h
    unfold putF
    split
    · rename_i c
      refine List.Pairwise.cons (fun d hd => ?_) (put_asc x a2)
      rcases putF_mem hd with rfl | hd
      · exact c
      · exact a1 d hd
    · rename_i c
      refine List.Pairwise.cons (fun d hd => ?_) (List.Pairwise.filter _ h)
      obtain ⟨hd, hu⟩ := List.mem_filter.1 hd
      have hu : ¬ uri d = uri x := by simpa using hu
      cases e : Op.bytesLess (uri x) (uri d) with
      | true => rfl
      | false =>
        exfalso
        rcases List.mem_cons.1 hd with rfl | hd
        · exact hu (bl_tri _ _ (by simpa using c) e)
        · cases e2 : Op.bytesLess (uri d) (uri x) with
          | false => exact hu (bl_tri _ _ e2 e)
          | true => exact c (bl_trans (a1 d hd) e2)

/-! the reference's merge -/
def mergeV (a : List D) : List D → List D → Option (List D)
  | [], out => some out
  | y :: b, out => match look a (uri y) with
    | none => mergeV a b (putF out y)
    | some x => match joinF x y with
      | none => none
      | some _ => mergeV a b (if newer x y then putF out y else out)

theorem mergeV_some (a : List D) : ∀ (b out o : List D), Asc b → Asc out → (∀ y, y ∈ b → look out (uri y) = look a (uri y)) → mergeV a b out = some o →
    Asc o ∧ (∀ u, look o u = match look b u with | none => look out u | some y => comb (look a u) (some y)) ∧ ∀ u x y, look a u = some x → look b u = some y → joinF x y ≠ none
  | [], out, o, hb, ho, hl, h => by
    cases h
    exact ⟨ho, fun u => rfl, fun u x y _ h => by rw [look_nil] at h; cases h⟩
  | y :: b, out, o, hb, ho, hl, h => by
    obtain ⟨b1, b2⟩ := List.pairwise_cons.1 hb
    have ne : ∀ {d}, d ∈ b → ¬ uri y = uri d := fun hd e => by have := b1 _ hd; rw [e, bl_irrefl] at this; cases this
    unfold mergeV at h
    cases hx : look a (uri y) with
    | none =>
      rw [hx] at h
      obtain ⟨g1, g2, g3⟩ := mergeV_some a b (putF out y) o b2 (put_asc y ho) (fun d hd => by rw [look_put, if_neg (ne hd)]; exact hl d (List.mem_cons_of_mem _ hd)) h
      refine ⟨g1, fun u => ?_, fun u x' y' e1 e2 => ?_⟩
      · rw [g2 u, look_cons, look_put]
        by_cases e : uri y = u
        · subst e; rw [look_lt b1, if_pos rfl, if_pos rfl, hx]; rfl
        · rw [if_neg e, if_neg e]
      · rw [look_cons] at e2
        by_cases e : uri y = u
        · subst e; rw [hx] at e1; cases e1
        · rw [if_neg e] at e2; exact g3 u x' y' e1 e2
    | some x =>
      rw [hx] at h
      cases j : joinF x y with
      | none => simp only [j] at h; cases h
      | some w =>
        simp only [j] at h
        have hw := joinF_some j
        obtain ⟨g1, g2, g3⟩ := mergeV_some a b (if newer x y then putF out y else out) o b2 (by split; exact put_asc y ho; exact ho) (fun d hd => by split; (rw [look_put, if_neg (ne hd)]; exact hl d (List.mem_cons_of_mem _ hd)); exact hl d (List.mem_cons_of_mem _ hd)) h
        refine ⟨g1, fun u => ?_, fun u x' y' e1 e2 => ?_⟩
        · rw [g2 u, look_cons]
          by_cases e : uri y = u
          · subst e
            rw [look_lt b1, if_pos rfl, hx]
            show look _ _ = joinF x y
            rw [j, hw]
            by_cases c : newer x y
            · rw [if_pos c, if_pos c, look_put, if_pos rfl]
            · rw [if_neg c, if_neg c, hl y (List.mem_cons_self ..), hx]
          · rw [if_neg e]
            cases look b u with
            | some _ => rfl
            | none =>
              show look _ _ = look _ _
              split
              · rw [look_put, if_neg e]
              · rfl
        · rw [look_cons] at e2
          by_cases e : uri y = u
          · subst e
            rw [if_pos rfl] at e2
            cases e2
            rw [hx] at e1
            cases e1
            rw [j]; simp
          · rw [if_neg e] at e2; exact g3 u x' y' e1 e2

theorem mergeV_none (a : List D) : ∀ (b out : List D), Asc b → mergeV a b out = none → ∃ u x y, look a u = some x ∧ look b u = some y ∧ joinF x y = none
  | [], out, hb, h => by cases h
  | y :: b, out, hb, h => by
    obtain ⟨b1, b2⟩ := List.pairwise_cons.1 hb
    have up : ∀ {u x'}, look b u = some x' → ¬ uri y = u := fun hu e => by
      subst e; rw [look_lt b1] at hu; cases hu
    unfold mergeV at h
    cases hx : look a (uri y) with
    | none =>
      rw [hx] at h
      obtain ⟨u, x', y', e1, e2, e3⟩ := mergeV_none a b _ b2 h
      exact ⟨u, x', y', e1, by rw [look_cons, if_neg (up e2)]; exact e2, e3⟩
    | some x =>
      rw [hx] at h
      cases j : joinF x y with
      | none => exact ⟨uri y, x, y, hx, by rw [look_cons, if_pos rfl], j⟩
      | some w =>
        simp only [j] at h
        obtain ⟨u, x', y', e1, e2, e3⟩ := mergeV_none a b _ b2 h
        exact ⟨u, x', y', e1, by rw [look_cons, if_neg (up e2)]; exact e2, e3⟩

theorem merge_eq {a b : List D} (ha : Asc a) (hb : Asc b) : mergeV a b a = zipF a b := by
  cases h1 : zipF a b with
  | none =>
    obtain ⟨u, x, y, e1, e2, e3⟩ := zip_none a b ha hb h1
    cases h2 : mergeV a b a with
    | none => rfl
    | some o => exact absurd e3 ((mergeV_some a b a o hb ha (fun _ _ => rfl) h2).2.2 u x y e1 e2)
  | some z =>
    have hz := zip_some a b z ha hb h1
    cases h2 : mergeV a b a with
    | none =>
      obtain ⟨u, x, y, e1, e2, e3⟩ := mergeV_none a b a hb h2
      exact absurd e3 (hz.ok u x y e1 e2)
    | some o =>
      obtain ⟨g1, g2, _⟩ := mergeV_some a b a o hb ha (fun _ _ => rfl) h2
      congr 1
      refine asc_ext g1 hz.asc fun u => ?_
      rw [g2 u, hz.lk u]
      cases look b u with
      | none => exact (comb_none _).symm
      | some y => rfl

end Go.Proofs.Ytmfhhbiaghejjaa.Own
