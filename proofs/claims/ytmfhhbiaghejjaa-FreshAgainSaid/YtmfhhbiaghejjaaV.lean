import Derived.Test.YtmfhhbiaghejjaaL
import Derived.Test.YtmfhhbiaghejjaaAlive
namespace Go.Proofs.Ytmfhhbiaghejjaa.Own
open Go Go.Proofs.Ytmfhhbiaghejjaa.GD
set_option linter.unusedVariables false
set_option linter.unusedSimpArgs false

theorem alive_is : Cl ty tab 24 [] = some [.bool true] := Cl_eq.2 alive_ev

theorem fine_looks {els : List D} {nb : Bool} (h : WT ty (.sl 47 nb els)) : Fine els ∧ (nb = true → els = []) := by
  obtain ⟨hl, hn, hf, hw⟩ := h.els
  exact ⟨⟨hl, fun d hd => hf ⟨true, ks0⟩ (by rfl) d hd⟩, hn⟩

/-- a list in order, of valid records, is good -/
theorem goodF_of : ∀ {l : List D} {o : Option (List UInt8)}, (∀ u, o = some u → ∀ d, d ∈ l → Op.bytesLess u (uri d) = true) → Asc l → (∀ d, d ∈ l → rightF d = true) → goodF o l = true
  | [], _, _, _, _ => rfl
  | d :: t, o, h0, ha, hr => by
    obtain ⟨h1, h2⟩ := List.pairwise_cons.1 ha
    unfold goodF
    rw [hr d (List.mem_cons_self ..), goodF_of (o := some (uri d)) (fun u hu x hx => by cases hu; exact h1 x hx) h2 (fun x hx => hr x (List.mem_cons_of_mem _ hx))]
    cases o with
    | none => rfl
    | some u => simp [h0 u rfl d (List.mem_cons_self ..)]

theorem check_of {l : List D} (h1 : l.length ≤ 200) (h2 : Asc l) (h3 : ∀ d, d ∈ l → rightF d = true) : checkF l = 0 := by
  unfold checkF
  rw [if_neg (by omega), if_pos (goodF_of (fun u h => by cases h) h2 h3)]

theorem put_check {l : List D} {x : D} (hc : checkF l = 0) (hx : rightF x = true) (h : (∃ o, look l (uri x) = some o) ∨ l.length ≠ 200) : checkF (putF l x) = 0 := by
  obtain ⟨c1, c2, c3⟩ := check_zero hc
  refine check_of ?_ (put_asc x c2) (fun d hd => by rcases putF_mem hd with rfl | hd; exact hx; exact c3 d hd)
  rcases h with ⟨o, h⟩ | h
  · have : atS l (uri x) = true := (atS_iff c2).2 ⟨o, (look_mem h).1, (look_mem h).2⟩
    rw [put_old x c2 this]
    simpa using c1
  · have := putF_len x l
    omega

/-- the first record of a point -/
def recR (l : List D) (s : List UInt8) (Z : List D) : List D := match look l s with | some d => [d, .bool true] | none => [.agg Z, .bool false]

def zeroD : List D := [(D.str ⟨#[]⟩), (D.int .u64 0)] ++ List.replicate 32 (D.int .u8 0) ++ [(D.int .i64 0), (D.int .i64 0), (D.int .i64 0)]

theorem record_ok (n : Bool) (l : List D) (s : ByteArray) (hl : Fine l) (h3 : l.length < 300) : Cl ty tab 25 [.sl 47 n l, .str s] = some (recR l s.toList zeroD) := by
  obtain ⟨k, hk⟩ := rounds
  refine s_gatepathlaw29_record k n l s ?_
  unfold gatepathlaw29_record
  have hl0 := hl.len
  have := iter_ix (F := gatepathlaw29_record.b0 (Cl ty tab) k l s) l.length (fun i => [.int .i64 i, .pv zeroD]) (fun i => some (recR (l.drop i) s.toList zeroD)) (fun i hi again ha => ?_) (fun again => ?_) k (by omega) 0 (by omega)
  · exact this
  · rw [List.drop_eq_getElem_cons hi]
    have hg : l.getD i .undef = l[i] := getD_get hi
    have he := hl.eta hi
    have hz : etaList ks0 zeroD 0 = zeroD := rfl
    have e0 : ((l[i].cell 0).s).toList = uri l[i] := rfl
    unfold recR
    rw [look_cons]
    unfold gatepathlaw29_record.b0
    unfold recR at ha
    by_cases h : uri l[i] = s.toList
    · have h' : (uri l[i] == s.toList) = true := by simp [h]
      clear ha hl
      simp (disch := omega) only [decide_true, decide_false, if_true, if_false, Bool.false_eq_true, Bool.true_eq_false, eq_self, Bool.true_or, Bool.false_or, Bool.true_and, Bool.false_and, Bool.or_true, Bool.or_false, Bool.and_true, Bool.and_false, List.getD_cons_zero, List.getD_cons_succ, cell_int, cell_bool, cell_str, cell_sl, cell_agg, i_int, b_bool, s_str, nb_sl, els_sl, nb_ov, els_ov, cs_pv, cs_agg, Int.toNat_natCast, toNat_sub1, toNat_add1, List.length_map, getD_map, ct, cf, beqd, bned, cp, cn, cnp, cnn, if_pos, if_neg, wrap64, Option.bind_some, Bool.not_true, Bool.not_false, List.isEmpty_nil, List.nil_append, List.length_nil, List.length_cons, Nat.zero_add, hg, he, e0, h, h', beq_self_eq_true]
    · have h' : (uri l[i] == s.toList) = false := by simp [h]
      clear hl
      simp (disch := omega) only [decide_true, decide_false, if_true, if_false, Bool.false_eq_true, Bool.true_eq_false, eq_self, Bool.true_or, Bool.false_or, Bool.true_and, Bool.false_and, Bool.or_true, Bool.or_false, Bool.and_true, Bool.and_false, List.getD_cons_zero, List.getD_cons_succ, cell_int, cell_bool, cell_str, cell_sl, cell_agg, i_int, b_bool, s_str, nb_sl, els_sl, nb_ov, els_ov, cs_pv, cs_agg, Int.toNat_natCast, toNat_sub1, toNat_add1, List.length_map, getD_map, ct, cf, beqd, bned, cp, cn, cnp, cnn, if_pos, if_neg, wrap64, Option.bind_some, Bool.not_true, Bool.not_false, List.isEmpty_nil, List.nil_append, List.length_nil, List.length_cons, Nat.zero_add, hg, he, e0, h, h', hz, Int.natCast_add, Int.natCast_one] at ha ⊢
      exact ha
  · rw [List.drop_length]
    unfold gatepathlaw29_record.b0 recR
    rw [look_nil]
    simp (disch := omega) only [decide_true, decide_false, if_true, if_false, Bool.false_eq_true, Bool.true_eq_false, eq_self, Bool.true_or, Bool.false_or, Bool.true_and, Bool.false_and, Bool.or_true, Bool.or_false, Bool.and_true, Bool.and_false, List.getD_cons_zero, List.getD_cons_succ, cell_int, cell_bool, cell_str, cell_sl, cell_agg, i_int, b_bool, s_str, nb_sl, els_sl, nb_ov, els_ov, cs_pv, cs_agg, Int.toNat_natCast, toNat_sub1, toNat_add1, List.length_map, getD_map, ct, cf, beqd, bned, cp, cn, cnp, cnn, if_pos, if_neg, wrap64, Option.bind_some, Bool.not_true, Bool.not_false, List.isEmpty_nil, List.nil_append, List.length_nil, List.length_cons, Nat.zero_add]
    rfl

/-- what an accepted manifest, or one that is not, leaves -/
theorem lookV_cases (l : List D) (x : D) (now : Int) :
    ((lookV l x now).2.2 ≠ 0 ∧ (lookV l x now).1 = [] ∧ (lookV l x now).2.1 = 0) ∨
    ((lookV l x now).2.2 = 0 ∧ checkF l = 0 ∧ mom now = true ∧ rightF x = true ∧ seen x = now ∧ (∀ o, look l (uri x) = some o → ¬ now < seen o) ∧
      (((lookV l x now).1 = l ∧ ((lookV l x now).2.1 = 6 ∨ (lookV l x now).2.1 = 7 ∨ (lookV l x now).2.1 = 4 ∨ (lookV l x now).2.1 = 5 ∨ (lookV l x now).2.1 = 8)) ∨
       ((lookV l x now).1 = putF l x ∧ ¬ til x < now ∧ ¬ now < frm x ∧ ((look l (uri x) = none ∧ l.length ≠ 200 ∧ (lookV l x now).2.1 = 1) ∨ ∃ o, look l (uri x) = some o ∧ (judgeF x o = 2 ∨ judgeF x o = 3) ∧ (lookV l x now).2.1 = judgeF x o)))) := by
  unfold lookV
  by_cases hc : checkF l = 0
  case neg => left; rw [if_pos hc]; exact ⟨hc, rfl, rfl⟩
  rw [if_neg (by simp [hc])]
  by_cases hm : mom now = true ∧ rightF x = true ∧ seen x = now
  case neg => left; rw [if_neg hm]; exact ⟨by simp, rfl, rfl⟩
  rw [if_pos hm]
  obtain ⟨m1, m2, m3⟩ := hm
  cases hk : look l (uri x) with
  | none =>
    simp only []
    unfold lookW
    by_cases h1 : til x < now
    · right; rw [if_pos h1]; exact ⟨rfl, hc, m1, m2, m3, fun o h => (by cases h), .inl ⟨rfl, .inl rfl⟩⟩
    by_cases h2 : now < frm x
    · right; rw [if_neg h1, if_pos h2]; exact ⟨rfl, hc, m1, m2, m3, fun o h => (by cases h), .inl ⟨rfl, .inr (.inl rfl)⟩⟩
    rw [if_neg h1, if_neg h2]
    simp only []
    by_cases h3 : l.length = 200
    · left; rw [if_pos h3]; exact ⟨by simp, rfl, rfl⟩
    · right; rw [if_neg h3]; exact ⟨rfl, hc, m1, m2, m3, fun o h => (by cases h), .inr ⟨rfl, h1, h2, .inl ⟨by simp, h3, rfl⟩⟩⟩
  | some o =>
    simp only []
    by_cases h0 : now < seen o
    · left; rw [if_pos h0]; exact ⟨by simp, rfl, rfl⟩
    rw [if_neg h0]
    have ho : ∀ o', some o = some o' → ¬ now < seen o' := fun o' h => by cases h; exact h0
    unfold lookW
    by_cases h1 : til x < now
    · right; rw [if_pos h1]; exact ⟨rfl, hc, m1, m2, m3, ho, .inl ⟨rfl, .inl rfl⟩⟩
    by_cases h2 : now < frm x
    · right; rw [if_neg h1, if_pos h2]; exact ⟨rfl, hc, m1, m2, m3, ho, .inl ⟨rfl, .inr (.inl rfl)⟩⟩
    rw [if_neg h1, if_neg h2]
    simp only []
    by_cases h3 : judgeF x o = 2 ∨ judgeF x o = 3
    · right; rw [if_pos h3]; exact ⟨rfl, hc, m1, m2, m3, ho, .inr ⟨rfl, h1, h2, .inr ⟨o, by simp, h3, rfl⟩⟩⟩
    · right; rw [if_neg h3]
      refine ⟨rfl, hc, m1, m2, m3, ho, .inl ⟨rfl, ?_⟩⟩
      have := judgeF_cases x o
      simp only
      omega

theorem lookV_fine {l : List D} {x : D} {now : Int} (hl : Fine l) (hx : Fit x) : Fine (lookV l x now).1 := by
  rcases lookV_cases l x now with ⟨_, h, _⟩ | ⟨_, hc, _, _, _, _, ⟨h, _⟩ | ⟨h, _⟩⟩
  · rw [h]; exact ⟨by simp, fun d hd => by cases hd⟩
  · rw [h]; exact hl
  · rw [h]; exact fine_put hl hx (by have := (check_zero hc).1; omega)

end Go.Proofs.Ytmfhhbiaghejjaa.Own
