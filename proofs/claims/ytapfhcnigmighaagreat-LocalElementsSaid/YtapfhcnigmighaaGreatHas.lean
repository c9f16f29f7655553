import Derived.Test.YtapfhcnigmighaaGreatApply
set_option linter.unusedVariables false
set_option linter.unusedSimpArgs false
namespace Go.Proofs.YtapfhcnigmighaaGreat.Own
open Go Go.Proofs.YtapfhcnigmighaaGreat.GD
def eqO (x d : D) : Bool := eqCells (etaCells ks1 d 0) (etaCells ks1 x 0)
def eqK (x d : D) : Bool := eqCells (kKsE d 0) (kKsE x 0)
def eqP (v : Int) (d : D) : Bool := (d.cell 0).i == v
theorem any_loop {F : List D → (List D → Option (List D)) → Option (List D)} (l : List D) (Q : D → Bool) (enc : Nat → List D)
  (step : ∀ i (hi : i < l.length), ∀ ag, ag (enc (i + 1)) = some [.bool ((l.drop (i + 1)).any Q)] → F (enc i) ag = some [.bool (Q l[i] || (l.drop (i + 1)).any Q)]) (fin : ∀ ag, F (enc l.length) ag = some [.bool false]) (k : Nat) (hk : l.length < k) : iter k F (enc 0) = some [.bool (l.any Q)] := by
 have := iter_ix (R := List D) (F := F) l.length enc (fun i => some [.bool ((l.drop i).any Q)]) (fun i hi ag ha => ?_) (fun ag => ?_) k hk 0 (by omega)
 · simpa using this
 · rw [List.drop_eq_getElem_cons hi, List.any_cons]
   exact step i hi ag ha
 · rw [List.drop_length]; exact fin ag
theorem hasO_ok (n : Bool) (l : List D) (x : D) (hx : Og x) (hl : l.length ≤ 60000) : Cl ty tab 25 [.sl 58 n l, x] = some [.bool (l.any (eqO x))] := by
 have := s_gatepathref34_HasOrigin 60001 n l x (r := [.bool (l.any (eqO x))]) ?_
 · rwa [hx.eta] at this
 unfold gatepathref34_HasOrigin
 have := any_loop (F := gatepathref34_HasOrigin.b0 (Cl ty tab) 60001 l) l (eqO x) (fun i => [.int .i64 i, .pv (etaCells ks1 x 0)]) (fun i hi ag ha => ?_) (fun ag => ?_) 60001 (by omega)
 · exact this
 · unfold gatepathref34_HasOrigin.b0
   rw [show ((i + 1 : Nat) : Int) = (i : Int) + 1 by omega] at ha
   have he : eqO x l[i] = eqCells (etaCells ks1 l[i] 0) (etaCells ks1 x 0) := rfl
   cases hc : eqO x l[i]
   · rw [hc] at he
     simp (disch := omega) only [gds, getD_get, etaList_eta, ← he]
     exact ha
   · rw [hc] at he
     simp (disch := omega) only [gds, getD_get, etaList_eta, ← he]
 · unfold gatepathref34_HasOrigin.b0
   simp (disch := omega) only [gds]
theorem hasK_ok (n : Bool) (l : List D) (x : D) (hx : Kg x) (hl : l.length ≤ 60000) : Cl ty tab 26 [.sl 64 n l, x] = some [.bool (l.any (eqK x))] := by
 have := s_gatepathref34_HasKey 60001 n l x (r := [.bool (l.any (eqK x))]) ?_
 · have e := hx.eta
   rwa [show D.agg (etaCells ks2 x 0) = x from e] at this
 unfold gatepathref34_HasKey
 have := any_loop (F := gatepathref34_HasKey.b0 (Cl ty tab) 60001 l) l (eqK x) (fun i => [.int .i64 i, .pv (kKsE x 0)]) (fun i hi ag ha => ?_) (fun ag => ?_) 60001 (by omega)
 · exact this
 · unfold gatepathref34_HasKey.b0
   rw [show ((i + 1 : Nat) : Int) = (i : Int) + 1 by omega] at ha
   have he : eqK x l[i] = eqCells (kKsE l[i] 0) (kKsE x 0) := rfl
   generalize hg : eqCells (kKsE l[i] 0) (kKsE x 0) = c at he
   have hg2 : ∀ a b : List D, a = kKsE l[i] 0 → b = kKsE x 0 → eqCells a b = c := fun a b h1 h2 => by rw [h1, h2]; exact hg
   rw [he]
   cases c
   · simp (disch := omega) only [gds, getD_get, etaList_eta, hg]
     exact ha
   · simp (disch := omega) only [gds, getD_get, etaList_eta, hg]
 · unfold gatepathref34_HasKey.b0
   simp (disch := omega) only [gds]
theorem hasP_ok (n : Bool) (l : List D) (v : Int) (hl : l.length ≤ 60000) : Cl ty tab 27 [.sl 84 n l, .int .u32 v] = some [.bool (l.any (eqP v))] := by
 refine s_gatepathlaw43_hasCustomer 60001 n l v ?_
 unfold gatepathlaw43_hasCustomer
 have := any_loop (F := gatepathlaw43_hasCustomer.b0 (Cl ty tab) 60001 l v) l (eqP v) (fun i => [.int .i64 i]) (fun i hi ag ha => ?_) (fun ag => ?_) 60001 (by omega)
 · exact this
 · unfold gatepathlaw43_hasCustomer.b0 eqP
   rw [show ((i + 1 : Nat) : Int) = (i : Int) + 1 by omega] at ha
   cases hc : ((l[i].cell 0).i == v)
   · simp (disch := omega) only [gds, getD_get, hc]
     exact ha
   · simp (disch := omega) only [gds, getD_get, hc]
 · unfold gatepathlaw43_hasCustomer.b0
   simp (disch := omega) only [gds]
end Go.Proofs.YtapfhcnigmighaaGreat.Own
