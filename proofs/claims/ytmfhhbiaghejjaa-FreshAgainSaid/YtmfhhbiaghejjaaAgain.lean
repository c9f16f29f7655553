import Derived.Test.YtmfhhbiaghejjaaV
import Derived.Test.YtmfhhbiaghejjaaRFreshAgain
namespace Go.Proofs.Ytmfhhbiaghejjaa.Own
open Go Go.Proofs.Ytmfhhbiaghejjaa.GD
set_option linter.unusedVariables false
set_option linter.unusedSimpArgs false

/-- a record with another number, seen at another time -/
def zD (x : D) (n t : Int) : D := D.agg (.str (x.cell 0).s :: .int .u64 n :: (hsh x ++ [.int .i64 (frm x), .int .i64 (til x), .int .i64 t]))

theorem zD_fit (x : D) (n t : Int) : Fit (zD x n t) := rfl
theorem zD_uri (x : D) (n t : Int) : uri (zD x n t) = uri x := rfl
theorem zD_num (x : D) (n t : Int) : num (zD x n t) = n := rfl
theorem zD_hsh (x : D) (n t : Int) : hsh (zD x n t) = hsh x := rfl
theorem zD_frm (x : D) (n t : Int) : frm (zD x n t) = frm x := rfl
theorem zD_til (x : D) (n t : Int) : til (zD x n t) = til x := rfl
theorem zD_seen (x : D) (n t : Int) : seen (zD x n t) = t := rfl
theorem zD_str (x : D) (n t : Int) : ((zD x n t).cell 0).s = (x.cell 0).s := rfl

theorem zD_right {x : D} (n : Int) {t : Int} (h : rightF x = true) (ht : mom t = true) : rightF (zD x n t) = true := by
  unfold rightF at h ⊢
  rw [zD_str, zD_frm, zD_til, zD_seen]
  simp only [Bool.and_eq_true] at h ⊢
  exact ⟨h.1, h.2.1, ht⟩

/-- it is looked at again -/
theorem again_two {l : List D} {x : D} {t n : Int} (hc : checkF (putF l x) = 0) (hr : rightF x = true) (h1 : ¬ til x < t) (h2 : ¬ t < frm x) (h3 : ¬ t < seen x) (ht : mom t = true) :
    lookV (putF l x) (zD x n t) t = lookW (putF l x) (zD x n t) t (some x) := by
  have hlk : look (putF l x) (uri x) = some x := by rw [look_put, if_pos rfl]
  unfold lookV
  rw [if_neg (by simp [hc]), if_pos ⟨ht, zD_right n hr ht, zD_seen x n t⟩, zD_uri, hlk]
  simp only []
  rw [if_neg h3]

theorem again_same {l : List D} {x : D} {t : Int} (hc : checkF (putF l x) = 0) (hr : rightF x = true) (h1 : ¬ til x < t) (h2 : ¬ t < frm x) (h3 : ¬ t < seen x) (ht : mom t = true) :
    (lookV (putF l x) (zD x (num x) t) t).2.1 = 2 ∧ (lookV (putF l x) (zD x (num x) t) t).2.2 = 0 := by
  rw [again_two hc hr h1 h2 h3 ht]
  have hj : judgeF (zD x (num x) t) x = 2 := by
    unfold judgeF cmpt
    rw [zD_num, zD_hsh, zD_frm, zD_til, eqCells_refl, if_neg (by omega), if_pos (by simp)]
  unfold lookW
  rw [zD_til, zD_frm, if_neg h1, if_neg h2]
  simp only [hj]
  exact ⟨rfl, rfl⟩

theorem again_back {l : List D} {x : D} {t n : Int} (hn : n < num x) (hc : checkF (putF l x) = 0) (hr : rightF x = true) (h1 : ¬ til x < t) (h2 : ¬ t < frm x) (h3 : ¬ t < seen x) (ht : mom t = true) :
    (lookV (putF l x) (zD x n t) t).2.1 = 4 ∧ (lookV (putF l x) (zD x n t) t).2.2 = 0 := by
  rw [again_two hc hr h1 h2 h3 ht]
  have hj : judgeF (zD x n t) x = 4 := by
    unfold judgeF
    rw [zD_num, if_pos hn]
  unfold lookW
  rw [zD_til, zD_frm, if_neg h1, if_neg h2]
  simp only [hj]
  exact ⟨rfl, rfl⟩

attribute [local irreducible] num seen frm til hsh uri

set_option maxHeartbeats 2000000 in
theorem freshAgain_cl (n : Bool) (l : List D) (x : D) (later lower : Int) (hl : Fine l) (hx : Fit x) (hn : n = true → l = []) : Cl ty tab 7 [.sl 47 n l, x, .int .i64 later, .int .u64 lower] = some [.bool true] := by
  have ex : D.agg (etaCells ks0 x 0) = x := eta_fit hx
  have := s_gatepathlaw29_FreshAgain 0 n l x later lower (r := [.bool true]) ?_
  · rwa [ex] at this
  unfold gatepathlaw29_FreshAgain
  have ez : ∀ a b : Int, D.agg ((D.str ((x.cell 0).s)) :: (D.int .u64 a) :: (D.int .u8 ((x.cell 2).i)) :: (D.int .u8 ((x.cell 3).i)) :: (D.int .u8 ((x.cell 4).i)) :: (D.int .u8 ((x.cell 5).i)) :: (D.int .u8 ((x.cell 6).i)) :: (D.int .u8 ((x.cell 7).i)) :: (D.int .u8 ((x.cell 8).i)) :: (D.int .u8 ((x.cell 9).i)) :: (D.int .u8 ((x.cell 10).i)) :: (D.int .u8 ((x.cell 11).i)) :: (D.int .u8 ((x.cell 12).i)) :: (D.int .u8 ((x.cell 13).i)) :: (D.int .u8 ((x.cell 14).i)) :: (D.int .u8 ((x.cell 15).i)) :: (D.int .u8 ((x.cell 16).i)) :: (D.int .u8 ((x.cell 17).i)) :: (D.int .u8 ((x.cell 18).i)) :: (D.int .u8 ((x.cell 19).i)) :: (D.int .u8 ((x.cell 20).i)) :: (D.int .u8 ((x.cell 21).i)) :: (D.int .u8 ((x.cell 22).i)) :: (D.int .u8 ((x.cell 23).i)) :: (D.int .u8 ((x.cell 24).i)) :: (D.int .u8 ((x.cell 25).i)) :: (D.int .u8 ((x.cell 26).i)) :: (D.int .u8 ((x.cell 27).i)) :: (D.int .u8 ((x.cell 28).i)) :: (D.int .u8 ((x.cell 29).i)) :: (D.int .u8 ((x.cell 30).i)) :: (D.int .u8 ((x.cell 31).i)) :: (D.int .u8 ((x.cell 32).i)) :: (D.int .u8 ((x.cell 33).i)) :: (D.int .i64 (frm x)) :: (D.int .i64 (til x)) :: (D.int .i64 b) :: []) = zD x a b := fun a b => by unfold zD hsh; rfl
  simp only [ex, g1, g34, g35, g36, ez]
  cases hg : greatF l
  case true => simp (disch := omega) only [decide_true, decide_false, if_true, if_false, Bool.false_eq_true, Bool.true_eq_false, eq_self, Bool.true_or, Bool.false_or, Bool.true_and, Bool.false_and, Bool.or_true, Bool.or_false, Bool.and_true, Bool.and_false, List.getD_cons_zero, List.getD_cons_succ, cell_int, cell_bool, cell_str, cell_sl, cell_agg, i_int, b_bool, s_str, nb_sl, els_sl, nb_ov, els_ov, cs_pv, cs_agg, Int.toNat_natCast, toNat_sub1, toNat_add1, List.length_map, getD_map, ct, cf, beqd, bned, cp, cn, cnp, cnn, if_pos, if_neg, wrap64, Option.bind_some, Bool.not_true, Bool.not_false, List.isEmpty_nil, List.nil_append, List.length_nil, List.length_cons, Nat.zero_add, alive_is, great_ok n l hl, hg]
  have hg2 := (greatF_small hg).1
  by_cases h1 : 300 < (x.cell 0).s.size
  · simp (disch := omega) only [decide_true, decide_false, if_true, if_false, Bool.false_eq_true, Bool.true_eq_false, eq_self, Bool.true_or, Bool.false_or, Bool.true_and, Bool.false_and, Bool.or_true, Bool.or_false, Bool.and_true, Bool.and_false, List.getD_cons_zero, List.getD_cons_succ, cell_int, cell_bool, cell_str, cell_sl, cell_agg, i_int, b_bool, s_str, nb_sl, els_sl, nb_ov, els_ov, cs_pv, cs_agg, Int.toNat_natCast, toNat_sub1, toNat_add1, List.length_map, getD_map, ct, cf, beqd, bned, cp, cn, cnp, cnn, if_pos, if_neg, wrap64, Option.bind_some, Bool.not_true, Bool.not_false, List.isEmpty_nil, List.nil_append, List.length_nil, List.length_cons, Nat.zero_add, alive_is, great_ok n l hl, hg]
  obtain ⟨m, hm, hm3⟩ := look_ok n l x (seen x) hl hx hn
  have hcs := lookV_cases l x (seen x)
  have hfin := lookV_fine (now := seen x) hl hx
  by_cases h0 : (lookV l x (seen x)).2.2 = 0
  case neg =>
    rcases hcs with ⟨_, k1, k2⟩ | ⟨k1, _⟩
    · have k3 : (lookV l x (seen x)).1.length = 0 := by rw [k1]; rfl
      clear hfin hm3
      generalize lookV l x (seen x) = v at *
      simp (disch := omega) only [decide_true, decide_false, if_true, if_false, Bool.false_eq_true, Bool.true_eq_false, eq_self, Bool.true_or, Bool.false_or, Bool.true_and, Bool.false_and, Bool.or_true, Bool.or_false, Bool.and_true, Bool.and_false, List.getD_cons_zero, List.getD_cons_succ, cell_int, cell_bool, cell_str, cell_sl, cell_agg, i_int, b_bool, s_str, nb_sl, els_sl, nb_ov, els_ov, cs_pv, cs_agg, Int.toNat_natCast, toNat_sub1, toNat_add1, List.length_map, getD_map, ct, cf, beqd, bned, cp, cn, cnp, cnn, if_pos, if_neg, wrap64, Option.bind_some, Bool.not_true, Bool.not_false, List.isEmpty_nil, List.nil_append, List.length_nil, List.length_cons, Nat.zero_add, alive_is, great_ok n l hl, hg, hm, h0, k2, k3, ne_eq, not_false_eq_true]
      rfl
    · exact absurd k1 h0
  rcases hcs with ⟨k1, _⟩ | ⟨_, hc, k1, k2, _, k4, ⟨e, e1⟩ | ⟨e, e1, e2, e3⟩⟩
  · exact absurd h0 k1
  · have hsame := sameP_ok n m l hl.len
    clear hfin hm3
    generalize lookV l x (seen x) = v at *
    obtain ⟨v1, v2, v3⟩ := v
    simp only at e e1 h0 hm
    have e' := e.symm
    subst e'
    subst h0
    rcases e1 with rfl | rfl | rfl | rfl | rfl <;>
      (simp (disch := omega) only [decide_true, decide_false, if_true, if_false, Bool.false_eq_true, Bool.true_eq_false, eq_self, Bool.true_or, Bool.false_or, Bool.true_and, Bool.false_and, Bool.or_true, Bool.or_false, Bool.and_true, Bool.and_false, List.getD_cons_zero, List.getD_cons_succ, cell_int, cell_bool, cell_str, cell_sl, cell_agg, i_int, b_bool, s_str, nb_sl, els_sl, nb_ov, els_ov, cs_pv, cs_agg, Int.toNat_natCast, toNat_sub1, toNat_add1, List.length_map, getD_map, ct, cf, beqd, bned, cp, cn, cnp, cnn, if_pos, if_neg, wrap64, Option.bind_some, Bool.not_true, Bool.not_false, List.isEmpty_nil, List.nil_append, List.length_nil, List.length_cons, Nat.zero_add, alive_is, great_ok n l hl, hg, hm, hsame, ne_eq, not_true_eq_false, not_false_eq_true]; rfl)
  · have hcp : checkF (putF l x) = 0 := put_check hc k2 (by rcases e3 with ⟨_, h, _⟩ | ⟨o, h, _⟩; exact .inr h; exact .inl ⟨o, h⟩)
    have hr3 : (lookV l x (seen x)).2.1 = 1 ∨ (lookV l x (seen x)).2.1 = 2 ∨ (lookV l x (seen x)).2.1 = 3 := by
      rcases e3 with ⟨_, _, h⟩ | ⟨o, _, h, h'⟩
      · exact .inl h
      · rw [h']; exact .inr h
    rw [e] at hm hfin hm3
    generalize lookV l x (seen x) = v at *
    obtain ⟨v1, v2, v3⟩ := v
    simp only at e hr3 h0 hm
    subst h0
    have hml : (putF l x).length < 300 := by have := (check_zero hcp).1; omega
    have hrec := record_ok m (putF l x) (x.cell 0).s hfin hml
    have hlk : look (putF l x) (uri x) = some x := by rw [look_put, if_pos rfl]
    rw [g0] at hrec
    unfold recR at hrec
    rw [hlk] at hrec
    simp only [] at hrec
    have heq : eqCells (etaCells ks0 x 0) (etaCells ks0 x 0) = true := eqCells_refl _
    have hmom := right_moms k2
    by_cases a1 : later < seen x
    · rcases hr3 with rfl | rfl | rfl <;> simp (disch := omega) only [decide_true, decide_false, if_true, if_false, Bool.false_eq_true, Bool.true_eq_false, eq_self, Bool.true_or, Bool.false_or, Bool.true_and, Bool.false_and, Bool.or_true, Bool.or_false, Bool.and_true, Bool.and_false, List.getD_cons_zero, List.getD_cons_succ, cell_int, cell_bool, cell_str, cell_sl, cell_agg, i_int, b_bool, s_str, nb_sl, els_sl, nb_ov, els_ov, cs_pv, cs_agg, Int.toNat_natCast, toNat_sub1, toNat_add1, List.length_map, getD_map, ct, cf, beqd, bned, cp, cn, cnp, cnn, if_pos, if_neg, wrap64, Option.bind_some, Bool.not_true, Bool.not_false, List.isEmpty_nil, List.nil_append, List.length_nil, List.length_cons, Nat.zero_add, alive_is, great_ok n l hl, hg, hm, hrec, heq, ne_eq, not_true_eq_false, not_false_eq_true, a1]
    by_cases a2 : til x < later
    · rcases hr3 with rfl | rfl | rfl <;> simp (disch := omega) only [decide_true, decide_false, if_true, if_false, Bool.false_eq_true, Bool.true_eq_false, eq_self, Bool.true_or, Bool.false_or, Bool.true_and, Bool.false_and, Bool.or_true, Bool.or_false, Bool.and_true, Bool.and_false, List.getD_cons_zero, List.getD_cons_succ, cell_int, cell_bool, cell_str, cell_sl, cell_agg, i_int, b_bool, s_str, nb_sl, els_sl, nb_ov, els_ov, cs_pv, cs_agg, Int.toNat_natCast, toNat_sub1, toNat_add1, List.length_map, getD_map, ct, cf, beqd, bned, cp, cn, cnp, cnn, if_pos, if_neg, wrap64, Option.bind_some, Bool.not_true, Bool.not_false, List.isEmpty_nil, List.nil_append, List.length_nil, List.length_cons, Nat.zero_add, alive_is, great_ok n l hl, hg, hm, hrec, heq, ne_eq, not_true_eq_false, not_false_eq_true, a1, a2]
    have ht : mom later = true := by unfold mom; rw [decide_eq_true_eq]; omega
    obtain ⟨m4, hm4, _⟩ := look_ok m (putF l x) (zD x (num x) later) later hfin (zD_fit _ _ _) hm3
    obtain ⟨s1, s2⟩ := again_same (l := l) hcp k2 a2 (by omega) a1 ht
    rw [s1, s2] at hm4
    by_cases a3 : num x ≤ lower
    · rcases hr3 with rfl | rfl | rfl <;> simp (disch := omega) only [decide_true, decide_false, if_true, if_false, Bool.false_eq_true, Bool.true_eq_false, eq_self, Bool.true_or, Bool.false_or, Bool.true_and, Bool.false_and, Bool.or_true, Bool.or_false, Bool.and_true, Bool.and_false, List.getD_cons_zero, List.getD_cons_succ, cell_int, cell_bool, cell_str, cell_sl, cell_agg, i_int, b_bool, s_str, nb_sl, els_sl, nb_ov, els_ov, cs_pv, cs_agg, Int.toNat_natCast, toNat_sub1, toNat_add1, List.length_map, getD_map, ct, cf, beqd, bned, cp, cn, cnp, cnn, if_pos, if_neg, wrap64, Option.bind_some, Bool.not_true, Bool.not_false, List.isEmpty_nil, List.nil_append, List.length_nil, List.length_cons, Nat.zero_add, alive_is, great_ok n l hl, hg, hm, hrec, heq, ne_eq, not_true_eq_false, not_false_eq_true, a1, a2, hm4, a3]
    obtain ⟨m5, hm5, _⟩ := look_ok m (putF l x) (zD x lower later) later hfin (zD_fit _ _ _) hm3
    obtain ⟨s3, s4⟩ := again_back (l := l) (n := lower) (by omega) hcp k2 a2 (by omega) a1 ht
    rw [s3, s4] at hm5
    rcases hr3 with rfl | rfl | rfl <;> simp (disch := omega) only [decide_true, decide_false, if_true, if_false, Bool.false_eq_true, Bool.true_eq_false, eq_self, Bool.true_or, Bool.false_or, Bool.true_and, Bool.false_and, Bool.or_true, Bool.or_false, Bool.and_true, Bool.and_false, List.getD_cons_zero, List.getD_cons_succ, cell_int, cell_bool, cell_str, cell_sl, cell_agg, i_int, b_bool, s_str, nb_sl, els_sl, nb_ov, els_ov, cs_pv, cs_agg, Int.toNat_natCast, toNat_sub1, toNat_add1, List.length_map, getD_map, ct, cf, beqd, bned, cp, cn, cnp, cnn, if_pos, if_neg, wrap64, Option.bind_some, Bool.not_true, Bool.not_false, List.isEmpty_nil, List.nil_append, List.length_nil, List.length_cons, Nat.zero_add, alive_is, great_ok n l hl, hg, hm, hrec, heq, ne_eq, not_true_eq_false, not_false_eq_true, a1, a2, hm4, a3, hm5]

theorem freshAgain_law : LawTrue ty tab 7 [⟨false, [.sl 47]⟩, ⟨true, ks0⟩, ⟨false, [.int .i64]⟩, ⟨false, [.int .u64]⟩] := by
  refine lawTrue_of fun dd hf hw => ?_
  obtain ⟨d1, dd, rfl, h1, hf⟩ := fitsV_cons hf
  obtain ⟨d2, dd, rfl, h2, hf⟩ := fitsV_cons hf
  obtain ⟨d3, dd, rfl, h3, hf⟩ := fitsV_cons hf
  obtain ⟨d4, dd, rfl, h4, hf⟩ := fitsV_cons hf
  obtain rfl := fitsV_nil hf
  obtain ⟨n, els, rfl⟩ := fits_sl (fits_one h1)
  obtain ⟨a, rfl⟩ := fits_int (fits_one h3)
  obtain ⟨b, rfl⟩ := fits_int (fits_one h4)
  obtain ⟨hl, hn⟩ := fine_looks (hw (.sl 47 n els) (by simp))
  exact freshAgain_cl n els d2 a b hl h2 hn

end Go.Proofs.Ytmfhhbiaghejjaa.Own
