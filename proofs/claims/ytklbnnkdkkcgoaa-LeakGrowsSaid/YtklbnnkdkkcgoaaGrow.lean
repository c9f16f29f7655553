import Derived.Test.YtklbnnkdkkcgoaaG
import Derived.Test.YtklbnnkdkkcgoaaHops0
import Derived.Test.YtklbnnkdkkcgoaaRLeakGrows
namespace Go.Proofs.Ytklbnnkdkkcgoaa.Own
open Go Go.Proofs.Ytklbnnkdkkcgoaa.GD
set_option linter.unusedVariables false
set_option linter.unusedSimpArgs false

/-- what is known of a hop stays -/
def Grows (l m : List At) : Prop := ∀ c p, hopF l c p = 0 ∨ hopF m c p = hopF l c p

theorem cF_not {l m : List At} (h : Grows l m) : ∀ a, cF m notH a ≤ cF l notH a
  | [] => Nat.le_refl _
  | [_] => Nat.le_refl _
  | x :: y :: t => by
    have ih := cF_not h (y :: t)
    rw [cF, cF]
    rcases h x y with h1 | h1
    · rw [h1]
      split <;> simp [notH] <;> omega
    · rw [h1]
      split <;> omega

theorem cF_doubt {l m : List At} (h : Grows l m) : ∀ a, cF l doubtH a ≤ cF m doubtH a
  | [] => Nat.le_refl _
  | [_] => Nat.le_refl _
  | x :: y :: t => by
    have ih := cF_doubt h (y :: t)
    rw [cF, cF]
    rcases h x y with h1 | h1
    · rw [h1]
      simp [doubtH]
      split <;> omega
    · rw [h1]
      split <;> omega

theorem cF_dn (l : List At) : ∀ a, cF l doubtH a ≤ cF l notH a
  | [] => Nat.le_refl _
  | [_] => Nat.le_refl _
  | x :: y :: t => by
    have ih := cF_dn l (y :: t)
    rw [cF, cF]
    by_cases h : hopF l x y = 2
    · simp [h, notH, doubtH]
    · simp only [notH, h, decide_false, Bool.false_eq_true, if_false]
      split <;> omega

theorem up_grows {l m : List At} (h : Grows l m) (a : List Int) : upF l a = 0 ∨ upF l a = upF m a := by
  have h1 := cF_not h a.reverse
  have h2 := cF_doubt h a.reverse
  have h3 := cF_dn m a.reverse
  have h4 := cF_le m doubtH a.reverse
  rw [List.length_reverse] at h4
  unfold upF
  split
  · right
    rw [if_pos (by omega)]
  · split
    · right
      rw [if_neg (by omega), if_pos (by omega)]
    · left; rfl

theorem down_grows {l m : List At} (h : Grows l m) (a : List Int) : downF l a = 0 ∨ downF l a = downF m a := by
  have h1 := cF_not h a.reverse
  have h2 := cF_doubt h a.reverse
  have h3 := cF_dn m a.reverse
  have g1 := cF_not h a
  have g2 := cF_doubt h a
  have g3 := cF_dn m a
  unfold downF
  split
  · right
    rw [if_pos (by omega)]
  · split
    · right
      rw [if_neg (by omega), if_pos (by omega)]
    · left; rfl

theorem rise_nodup {a b : Int} : ∀ {A B : List Int}, rise (A ++ a :: B) = true → (∀ c, c ∈ A → c < a) ∧ ∀ c, c ∈ B → a < c
  | [], B, h => ⟨(fun c hc => by cases hc), rise_lt h⟩
  | x :: A, B, h => by
    have ih := rise_nodup (a := a) (b := b) (A := A) (B := B) (rise_tail h)
    refine ⟨fun c hc => ?_, ih.2⟩
    rcases List.mem_cons.1 hc with rfl | hc
    · exact rise_lt h a (by simp)
    · exact ih.1 c hc

theorem grows_of (A B : List At) (x : At) (h : rise ((A ++ x :: B).map At.c) = true) : Grows (A ++ B) (A ++ x :: B) := by
  intro c p
  rw [List.map_append, List.map_cons] at h
  obtain ⟨h1, h2⟩ := rise_nodup (b := 0) h
  by_cases hc : c = x.c
  · left
    have : (A ++ B).find? (fun a => decide (a.c = c)) = none := by
      rw [List.find?_eq_none]
      intro b hb
      simp only [decide_eq_true_eq]
      rcases List.mem_append.1 hb with hb | hb
      · have := h1 b.c (List.mem_map.2 ⟨b, hb, rfl⟩); omega
      · have := h2 b.c (List.mem_map.2 ⟨b, hb, rfl⟩); omega
    unfold hopF
    rw [this]
  · right
    unfold hopF
    have e : (fun a : At => decide (a.c = c)) x = false := by simp; exact fun h => hc h.symm
    rw [List.find?_append, List.find?_append, List.find?_cons]
    simp only [e]

theorem fine_ins {A B : List At} {x : At} (h : Fine (A ++ B)) (hx : x.p.length ≤ 60) (hl : (A ++ B).length ≤ 310) : Fine (A ++ x :: B) := by
  refine ⟨by simp at hl ⊢; omega, fun a ha => ?_⟩
  rcases List.mem_append.1 ha with ha | ha
  · exact h.plen a (by simp [ha])
  · rcases List.mem_cons.1 ha with rfl | ha
    · omega
    · exact h.plen a (by simp [ha])

theorem leakGrows_cl (n : Bool) (l : List At) (m : Bool) (L : List Int) (x : At) (hl : Fine l) (hm : m = true → L = []) (hx : x.p.length ≤ 9223372036854775807) :
    Cl ty tab 5 [.sl 46 n (l.map At.d), .sl 23 m (U L), x.d] = some [.bool true] := by
  obtain ⟨k, hk⟩ := rounds
  refine s_gatepathlaw41_LeakGrows k _ _ _ _ _ _ _ ?_
  unfold gatepathlaw41_LeakGrows
  have hx1 := great_ok false [x] (by simp)
  simp only [List.map_cons, List.map_nil, At.d] at hx1
  simp (disch := omega) only [decide_true, decide_false, if_true, if_false, Bool.false_eq_true, Bool.true_eq_false, eq_self, Bool.true_or, Bool.false_or, Bool.true_and, Bool.false_and, Bool.or_true, Bool.or_false, Bool.and_true, Bool.and_false, List.getD_cons_zero, List.getD_cons_succ, cell_int, cell_bool, cell_str, cell_sl, cell_agg, i_int, b_bool, s_str, nb_sl, els_sl, nb_ov, els_ov, cs_pv, cs_agg, Int.toNat_natCast, toNat_sub1, toNat_add1, List.length_map, getD_map, ct, cf, beqd, bned, cp, cn, cnp, cnn, if_pos, if_neg, wrap64, Option.bind_some, Bool.not_true, Bool.not_false, List.isEmpty_nil, List.nil_append, List.length_nil, List.length_cons, Nat.zero_add, alive_ok, great_ok n l hl.len, hx1]
  cases hg : greatF l
  case true => simp (disch := omega) only [decide_true, decide_false, if_true, if_false, Bool.false_eq_true, Bool.true_eq_false, eq_self, Bool.true_or, Bool.false_or, Bool.true_and, Bool.false_and, Bool.or_true, Bool.or_false, Bool.and_true, Bool.and_false, List.getD_cons_zero, List.getD_cons_succ, cell_int, cell_bool, cell_str, cell_sl, cell_agg, i_int, b_bool, s_str, nb_sl, els_sl, nb_ov, els_ov, cs_pv, cs_agg, Int.toNat_natCast, toNat_sub1, toNat_add1, List.length_map, getD_map, ct, cf, beqd, bned, cp, cn, cnp, cnn, if_pos, if_neg, wrap64, Option.bind_some, Bool.not_true, Bool.not_false, List.isEmpty_nil, List.nil_append, List.length_nil, List.length_cons, Nat.zero_add]
  cases hg2 : greatF [x]
  case true => simp (disch := omega) only [decide_true, decide_false, if_true, if_false, Bool.false_eq_true, Bool.true_eq_false, eq_self, Bool.true_or, Bool.false_or, Bool.true_and, Bool.false_and, Bool.or_true, Bool.or_false, Bool.and_true, Bool.and_false, List.getD_cons_zero, List.getD_cons_succ, cell_int, cell_bool, cell_str, cell_sl, cell_agg, i_int, b_bool, s_str, nb_sl, els_sl, nb_ov, els_ov, cs_pv, cs_agg, Int.toNat_natCast, toNat_sub1, toNat_add1, List.length_map, getD_map, ct, cf, beqd, bned, cp, cn, cnp, cnn, if_pos, if_neg, wrap64, Option.bind_some, Bool.not_true, Bool.not_false, List.isEmpty_nil, List.nil_append, List.length_nil, List.length_cons, Nat.zero_add]
  by_cases hc : checkF l = 0
  case neg => simp (disch := omega) only [decide_true, decide_false, if_true, if_false, Bool.false_eq_true, Bool.true_eq_false, eq_self, Bool.true_or, Bool.false_or, Bool.true_and, Bool.false_and, Bool.or_true, Bool.or_false, Bool.and_true, Bool.and_false, List.getD_cons_zero, List.getD_cons_succ, cell_int, cell_bool, cell_str, cell_sl, cell_agg, i_int, b_bool, s_str, nb_sl, els_sl, nb_ov, els_ov, cs_pv, cs_agg, Int.toNat_natCast, toNat_sub1, toNat_add1, List.length_map, getD_map, ct, cf, beqd, bned, cp, cn, cnp, cnn, if_pos, if_neg, wrap64, Option.bind_some, Bool.not_true, Bool.not_false, List.isEmpty_nil, List.nil_append, List.length_nil, List.length_cons, Nat.zero_add, rcheck_ok n l hl]
  by_cases g4 : 30 < L.length
  · simp (disch := omega) only [decide_true, decide_false, if_true, if_false, Bool.false_eq_true, Bool.true_eq_false, eq_self, Bool.true_or, Bool.false_or, Bool.true_and, Bool.false_and, Bool.or_true, Bool.or_false, Bool.and_true, Bool.and_false, List.getD_cons_zero, List.getD_cons_succ, cell_int, cell_bool, cell_str, cell_sl, cell_agg, i_int, b_bool, s_str, nb_sl, els_sl, nb_ov, els_ov, cs_pv, cs_agg, Int.toNat_natCast, toNat_sub1, toNat_add1, List.length_map, getD_map, ct, cf, beqd, bned, cp, cn, cnp, cnn, if_pos, if_neg, wrap64, Option.bind_some, Bool.not_true, Bool.not_false, List.isEmpty_nil, List.nil_append, List.length_nil, List.length_cons, Nat.zero_add, rcheck_ok n l hl, hc, ne_eq, not_true_eq_false]
  simp (disch := omega) only [decide_true, decide_false, if_true, if_false, Bool.false_eq_true, Bool.true_eq_false, eq_self, Bool.true_or, Bool.false_or, Bool.true_and, Bool.false_and, Bool.or_true, Bool.or_false, Bool.and_true, Bool.and_false, List.getD_cons_zero, List.getD_cons_succ, cell_int, cell_bool, cell_str, cell_sl, cell_agg, i_int, b_bool, s_str, nb_sl, els_sl, nb_ov, els_ov, cs_pv, cs_agg, Int.toNat_natCast, toNat_sub1, toNat_add1, List.length_map, getD_map, ct, cf, beqd, bned, cp, cn, cnp, cnn, if_pos, if_neg, wrap64, Option.bind_some, Bool.not_true, Bool.not_false, List.isEmpty_nil, List.nil_append, List.length_nil, List.length_cons, Nat.zero_add, rcheck_ok n l hl, hc, ne_eq, not_true_eq_false]
  have hg3 := greatF_small hg
  have hx2 := (greatF_small hg2).2 x (by simp)
  have he : errF l L = 0 := by unfold errF; rw [if_pos hc, if_neg (by omega)]
  have us := upstream_ok n m l L hl (by omega) hm
  have ds := downstream_ok n m l L hl (by omega) hm
  rw [he, tell, if_pos rfl] at us ds
  have := iter_wf (F := gatepathlaw41_LeakGrows.b0 (Cl ty tab) k n (l.map At.d) m (U L) [.bool true]) (σ := Nat) (fun i => [.ov 46 (decide (i = 0)) ((l.take i).map At.d), .int .i64 i, .pv [.int .u32 x.c, .sl 23 x.nb (U x.p)]]) (fun _ => some [.bool true]) (fun i => l.length - i) (fun i => i ≤ l.length) (fun i hi again hag => ?_) k 0 (Nat.zero_le _) (by omega)
  · exact this
  · have fin : ∀ M : List At, M = l.take i ++ x :: l.drop i → True := fun _ _ => trivial
    generalize hM : l.take i ++ x :: l.drop i = M
    have e0 : l.take i ++ l.drop i = l := List.take_append_drop i l
    have fM : Fine M := by rw [← hM]; exact fine_ins (by rw [e0]; exact hl) hx2 (by rw [e0]; exact hg3.1)
    have eM : ((l.take i).map At.d ++ [D.agg [.int .u32 x.c, .sl 23 x.nb (U x.p)]] ++ ((l.map At.d).drop i).take (l.length - i)) = M.map At.d := by
      have e9 : ((l.map At.d).drop i).take (l.length - i) = (l.drop i).map At.d := by rw [List.take_of_length_le (by simp), List.map_drop]
      rw [e9, ← hM, List.map_append, List.map_cons, List.append_assoc, List.singleton_append]
      rfl
    have cM := rcheck_ok false M fM
    have uM := upstream_ok false m M L fM (by omega) hm
    have dM := downstream_ok false m M L fM (by omega) hm
    have lM : M.length = l.length + 1 := by rw [← hM]; simp; omega
    have hmin : min i l.length = i := by omega
    have fin : (bif decide (checkF M ≠ 0) then some [D.bool true]
      else
        bif decide ((((tell (errF M L) (upF M (sqF L))).getD 1 D.undef).cell 0).i = 0) then
          bif decide ((((tell (errF M L) (downF M (sqF L))).getD 1 D.undef).cell 0).i = 0) then
            bif decide (upF l (sqF L) = 0) then
              bif decide (downF l (sqF L) = 0) then some [D.bool true]
              else some [D.bool (decide (downF l (sqF L) = (((tell (errF M L) (downF M (sqF L))).getD 0 D.undef).cell 0).i))]
            else
              bif decide (upF l (sqF L) = (((tell (errF M L) (upF M (sqF L))).getD 0 D.undef).cell 0).i) then
                bif decide (downF l (sqF L) = 0) then some [D.bool true]
                else some [D.bool (decide (downF l (sqF L) = (((tell (errF M L) (downF M (sqF L))).getD 0 D.undef).cell 0).i))]
              else some [D.bool false]
          else some [D.bool false]
        else some [D.bool false]) = some [D.bool true] := by
      by_cases cm : checkF M = 0
      · have heM : errF M L = 0 := by unfold errF; rw [if_pos cm, if_neg (by omega)]
        have gr : Grows l M := by
          have := grows_of (l.take i) (l.drop i) x (by rw [hM]; exact (checkF_zero cm).2.2.1)
          rwa [e0, hM] at this
        have u1 := up_grows gr (sqF L)
        have d1 := down_grows gr (sqF L)
        simp (disch := omega) only [decide_true, decide_false, if_true, if_false, Bool.false_eq_true, Bool.true_eq_false, eq_self, Bool.true_or, Bool.false_or, Bool.true_and, Bool.false_and, Bool.or_true, Bool.or_false, Bool.and_true, Bool.and_false, List.getD_cons_zero, List.getD_cons_succ, cell_int, cell_bool, cell_str, cell_sl, cell_agg, i_int, b_bool, s_str, nb_sl, els_sl, nb_ov, els_ov, cs_pv, cs_agg, Int.toNat_natCast, toNat_sub1, toNat_add1, List.length_map, getD_map, ct, cf, beqd, bned, cp, cn, cnp, cnn, if_pos, if_neg, wrap64, Option.bind_some, Bool.not_true, Bool.not_false, List.isEmpty_nil, List.nil_append, List.length_nil, List.length_cons, Nat.zero_add, cm, heM, tell, ne_eq, not_true_eq_false]
        by_cases z1 : upF l (sqF L) = 0
        · by_cases z2 : downF l (sqF L) = 0
          · simp (disch := omega) only [decide_true, decide_false, if_true, if_false, Bool.false_eq_true, Bool.true_eq_false, eq_self, Bool.true_or, Bool.false_or, Bool.true_and, Bool.false_and, Bool.or_true, Bool.or_false, Bool.and_true, Bool.and_false, List.getD_cons_zero, List.getD_cons_succ, cell_int, cell_bool, cell_str, cell_sl, cell_agg, i_int, b_bool, s_str, nb_sl, els_sl, nb_ov, els_ov, cs_pv, cs_agg, Int.toNat_natCast, toNat_sub1, toNat_add1, List.length_map, getD_map, ct, cf, beqd, bned, cp, cn, cnp, cnn, if_pos, if_neg, wrap64, Option.bind_some, Bool.not_true, Bool.not_false, List.isEmpty_nil, List.nil_append, List.length_nil, List.length_cons, Nat.zero_add, z1, z2]
          · have := d1.resolve_left z2
            simp (disch := omega) only [decide_true, decide_false, if_true, if_false, Bool.false_eq_true, Bool.true_eq_false, eq_self, Bool.true_or, Bool.false_or, Bool.true_and, Bool.false_and, Bool.or_true, Bool.or_false, Bool.and_true, Bool.and_false, List.getD_cons_zero, List.getD_cons_succ, cell_int, cell_bool, cell_str, cell_sl, cell_agg, i_int, b_bool, s_str, nb_sl, els_sl, nb_ov, els_ov, cs_pv, cs_agg, Int.toNat_natCast, toNat_sub1, toNat_add1, List.length_map, getD_map, ct, cf, beqd, bned, cp, cn, cnp, cnn, if_pos, if_neg, wrap64, Option.bind_some, Bool.not_true, Bool.not_false, List.isEmpty_nil, List.nil_append, List.length_nil, List.length_cons, Nat.zero_add, z1, z2]
            simp [this]
        · have e1 := u1.resolve_left z1
          by_cases z2 : downF l (sqF L) = 0
          · simp (disch := omega) only [decide_true, decide_false, if_true, if_false, Bool.false_eq_true, Bool.true_eq_false, eq_self, Bool.true_or, Bool.false_or, Bool.true_and, Bool.false_and, Bool.or_true, Bool.or_false, Bool.and_true, Bool.and_false, List.getD_cons_zero, List.getD_cons_succ, cell_int, cell_bool, cell_str, cell_sl, cell_agg, i_int, b_bool, s_str, nb_sl, els_sl, nb_ov, els_ov, cs_pv, cs_agg, Int.toNat_natCast, toNat_sub1, toNat_add1, List.length_map, getD_map, ct, cf, beqd, bned, cp, cn, cnp, cnn, if_pos, if_neg, wrap64, Option.bind_some, Bool.not_true, Bool.not_false, List.isEmpty_nil, List.nil_append, List.length_nil, List.length_cons, Nat.zero_add, z2]
          · have := d1.resolve_left z2
            simp (disch := omega) only [decide_true, decide_false, if_true, if_false, Bool.false_eq_true, Bool.true_eq_false, eq_self, Bool.true_or, Bool.false_or, Bool.true_and, Bool.false_and, Bool.or_true, Bool.or_false, Bool.and_true, Bool.and_false, List.getD_cons_zero, List.getD_cons_succ, cell_int, cell_bool, cell_str, cell_sl, cell_agg, i_int, b_bool, s_str, nb_sl, els_sl, nb_ov, els_ov, cs_pv, cs_agg, Int.toNat_natCast, toNat_sub1, toNat_add1, List.length_map, getD_map, ct, cf, beqd, bned, cp, cn, cnp, cnn, if_pos, if_neg, wrap64, Option.bind_some, Bool.not_true, Bool.not_false, List.isEmpty_nil, List.nil_append, List.length_nil, List.length_cons, Nat.zero_add]
            simp [this]
      · simp (disch := omega) only [decide_true, decide_false, if_true, if_false, Bool.false_eq_true, Bool.true_eq_false, eq_self, Bool.true_or, Bool.false_or, Bool.true_and, Bool.false_and, Bool.or_true, Bool.or_false, Bool.and_true, Bool.and_false, List.getD_cons_zero, List.getD_cons_succ, cell_int, cell_bool, cell_str, cell_sl, cell_agg, i_int, b_bool, s_str, nb_sl, els_sl, nb_ov, els_ov, cs_pv, cs_agg, Int.toNat_natCast, toNat_sub1, toNat_add1, List.length_map, getD_map, ct, cf, beqd, bned, cp, cn, cnp, cnn, if_pos, if_neg, wrap64, Option.bind_some, Bool.not_true, Bool.not_false, List.isEmpty_nil, List.nil_append, List.length_nil, List.length_cons, Nat.zero_add, cm, ne_eq, not_false_eq_true]
    unfold gatepathlaw41_LeakGrows.b0
    rcases Nat.lt_or_ge i l.length with hlt | hge
    · by_cases h1 : l[i].c < x.c
      · have := hag (i + 1) (by omega) (by omega)
        rw [List.take_add_one, List.getElem?_eq_getElem hlt] at this
        simp (disch := omega) only [decide_true, decide_false, if_true, if_false, Bool.false_eq_true, Bool.true_eq_false, eq_self, Bool.true_or, Bool.false_or, Bool.true_and, Bool.false_and, Bool.or_true, Bool.or_false, Bool.and_true, Bool.and_false, List.getD_cons_zero, List.getD_cons_succ, cell_int, cell_bool, cell_str, cell_sl, cell_agg, i_int, b_bool, s_str, nb_sl, els_sl, nb_ov, els_ov, cs_pv, cs_agg, Int.toNat_natCast, toNat_sub1, toNat_add1, List.length_map, getD_map, ct, cf, beqd, bned, cp, cn, cnp, cnn, if_pos, if_neg, wrap64, Option.bind_some, Bool.not_true, Bool.not_false, List.isEmpty_nil, List.nil_append, List.length_nil, List.length_cons, Nat.zero_add, At.d, List.length_take, Option.toList_some, List.map_append, List.map_cons, List.map_nil, Int.natCast_add, Int.natCast_one, dF] at this ⊢
        exact this
      · simp (disch := omega) only [decide_true, decide_false, if_true, if_false, Bool.false_eq_true, Bool.true_eq_false, eq_self, Bool.true_or, Bool.false_or, Bool.true_and, Bool.false_and, Bool.or_true, Bool.or_false, Bool.and_true, Bool.and_false, List.getD_cons_zero, List.getD_cons_succ, cell_int, cell_bool, cell_str, cell_sl, cell_agg, i_int, b_bool, s_str, nb_sl, els_sl, nb_ov, els_ov, cs_pv, cs_agg, Int.toNat_natCast, toNat_sub1, toNat_add1, List.length_map, getD_map, ct, cf, beqd, bned, cp, cn, cnp, cnn, if_pos, if_neg, wrap64, Option.bind_some, Bool.not_true, Bool.not_false, List.isEmpty_nil, List.nil_append, List.length_nil, List.length_cons, Nat.zero_add, At.d, List.length_take, List.length_append, List.length_drop, hmin, eM, cM, uM, dM, us, ds]
        exact fin
    · simp (disch := omega) only [decide_true, decide_false, if_true, if_false, Bool.false_eq_true, Bool.true_eq_false, eq_self, Bool.true_or, Bool.false_or, Bool.true_and, Bool.false_and, Bool.or_true, Bool.or_false, Bool.and_true, Bool.and_false, List.getD_cons_zero, List.getD_cons_succ, cell_int, cell_bool, cell_str, cell_sl, cell_agg, i_int, b_bool, s_str, nb_sl, els_sl, nb_ov, els_ov, cs_pv, cs_agg, Int.toNat_natCast, toNat_sub1, toNat_add1, List.length_map, getD_map, ct, cf, beqd, bned, cp, cn, cnp, cnn, if_pos, if_neg, wrap64, Option.bind_some, Bool.not_true, Bool.not_false, List.isEmpty_nil, List.nil_append, List.length_nil, List.length_cons, Nat.zero_add, List.length_take, List.length_append, List.length_drop, hmin, eM, cM, uM, dM, us, ds]
      exact fin

theorem leakGrows_law : LawTrue ty tab 5 [⟨false, [.sl 46]⟩, ⟨false, [.sl 23]⟩, ⟨true, [.int .u32, .sl 23]⟩] := by
  refine lawTrue_of fun dd hf hw => ?_
  obtain ⟨d1, dd, rfl, h1, hf⟩ := fitsV_cons hf
  obtain ⟨d2, dd, rfl, h2, hf⟩ := fitsV_cons hf
  obtain ⟨d3, dd, rfl, h3, hf⟩ := fitsV_cons hf
  obtain rfl := fitsV_nil hf
  obtain ⟨n, els, rfl⟩ := fits_sl (fits_one h1)
  obtain ⟨m, els2, rfl⟩ := fits_sl (fits_one h2)
  obtain ⟨cs, rfl, h3⟩ := fits_agg h3
  obtain ⟨x, cs, rfl, h4, h3⟩ := fitsL_cons h3
  obtain ⟨y, cs, rfl, h5, h3⟩ := fitsL_cons h3
  obtain rfl := fitsL_nil h3
  obtain ⟨c, rfl⟩ := fits_int h4
  obtain ⟨nb, els3, rfl⟩ := fits_sl h5
  obtain ⟨l, rfl, hl⟩ := ats_of (hw (.sl 46 n els) (by simp))
  obtain ⟨L, rfl, hL, hm, _⟩ := ints_of (hw (.sl 23 m els2) (by simp))
  obtain ⟨P, rfl, hP, _, _⟩ := ints_of ((hw (.agg [.int .u32 c, .sl 23 nb els3]) (by simp)).cells (.sl 23 nb els3) (by simp))
  exact leakGrows_cl n l m L ⟨c, nb, P⟩ hl hm hP

end Go.Proofs.Ytklbnnkdkkcgoaa.Own
