/- The law Shrink answers true at all plain arguments; no condition. -/
import Derived.Test.YtmbnloccmnclnaaDoorPp
import Derived.Test.YtmbnloccmnclnaaDoorBpkh
namespace Go.Proofs.YtmbnloccmnclnaaDoor
open Go.VK AVal
/-- a packed table's parts, each not too large -/
structure PkOK (x : PackedD) : Prop where
  a : szActSS x.1 ≤ 1048576
  b : szIntSS x.2.1 ≤ 1048576
  c : x.2.2.1.length ≤ 1048576
  d : x.2.2.2.length ≤ 1048576
theorem cntActS_eq (xs : List ActD) : cntActS xs = 2 * xs.length := by
  induction xs with
  | nil => rfl
  | cons x xs ih => simp only [cntActS, cntAct, ih, List.length_cons]; omega
theorem cntActSS_le (xs : List (List ActD)) : cntActSS xs ≤ 2 * szActSS xs := by
  unfold szActSS
  induction xs with
  | nil => simp [cntActSS]
  | cons x xs ih => simp only [cntActSS, totActS, cntActS_eq, List.length_cons] at ih ⊢; omega
theorem cntIntSS_le (xs : List (List Int)) : cntIntSS xs ≤ szIntSS xs := by
  unfold szIntSS
  induction xs with
  | nil => simp [cntIntSS]
  | cons x xs ih => simp only [cntIntSS, totIntS, List.length_cons] at ih ⊢; omega
theorem PkOK.eq {x : PackedD} (h : PkOK x) : Fl_eqPacked (x.1.map avActS) (x.2.1.map avIntS) (x.2.2.1.map iv) (x.2.2.2.map iv) (x.1.map avActS) (x.2.1.map avIntS) (x.2.2.1.map iv) (x.2.2.2.map iv) = some true := by
  obtain ⟨a, b, c, d⟩ := h
  refine ul_eqPacked _ _ _ _ _ _ _ _ ?_
  simp only [eqActSS x.1 (by omega), eqIntSS x.2.1 (by omega), eqIntS x.2.2.1 (by omega), eqIntS x.2.2.2 (by omega), Option.bind_some, Bool.not_true, cond_false]
def pkN (x : PackedD) : Int := 1 + (cntActSS x.1 : Nat) + (cntIntSS x.2.1 : Nat) + (x.2.2.1.length : Nat) + (x.2.2.2.length : Nat)
theorem PkOK.marks {x : PackedD} (h : PkOK x) : ∃ y : PackedD, Fl_markPacked 1 (x.1.map aoActS) (x.2.1.map aoIntS) (x.2.2.1.map iv) (x.2.2.2.map iv) = some (pkN x, y.1.map aoActS, y.2.1.map aoIntS, y.2.2.1.map iv, y.2.2.2.map iv) ∧
    Fl_heldPacked (y.1.map avActS) (y.2.1.map avIntS) (y.2.2.1.map iv) (y.2.2.2.map iv) 1 = some (pkN x) ∧ 0 ≤ pkN x := by
  obtain ⟨a, b, c, d⟩ := h
  have q1 := cntActSS_le x.1
  have q2 := cntIntSS_le x.2.1
  refine ⟨mkPacked 1 x, ?_, ?_, by unfold pkN; omega⟩
  · refine ul_markPacked _ _ _ _ _ ?_
    simp only [mrActSS x.1 1 (by omega) (by omega) (by omega), mrIntSS x.2.1 (1 + (cntActSS x.1 : Nat)) (by omega) (by omega) (by omega), mrIntS x.2.2.1 (1 + (cntActSS x.1 : Nat) + (cntIntSS x.2.1 : Nat)) (by omega) (by omega) (by omega), mrIntS x.2.2.2 (1 + (cntActSS x.1 : Nat) + (cntIntSS x.2.1 : Nat) + (x.2.2.1.length : Nat)) (by omega) (by omega) (by omega), Option.bind_some, pkN, mkPacked]
  · refine ul_heldPacked _ _ _ _ _ ?_
    simp only [mkPacked, hdActSS x.1 1 (by omega) (by omega) (by omega), show ¬ (1 + (cntActSS x.1 : Nat) < (0 : Int)) from by omega, hdIntSS x.2.1 (1 + (cntActSS x.1 : Nat)) (by omega) (by omega) (by omega), show ¬ (1 + (cntActSS x.1 : Nat) + (cntIntSS x.2.1 : Nat) < (0 : Int)) from by omega, hdIntS x.2.2.1 (1 + (cntActSS x.1 : Nat) + (cntIntSS x.2.1 : Nat)) (by omega) (by omega) (by omega), show ¬ (1 + (cntActSS x.1 : Nat) + (cntIntSS x.2.1 : Nat) + (x.2.2.1.length : Nat) < (0 : Int)) from by omega, hdIntS x.2.2.2 (1 + (cntActSS x.1 : Nat) + (cntIntSS x.2.1 : Nat) + (x.2.2.1.length : Nat)) (by omega) (by omega) (by omega), show ¬ (1 + (cntActSS x.1 : Nat) + (cntIntSS x.2.1 : Nat) + (x.2.2.1.length : Nat) + (x.2.2.2.length : Nat) < (0 : Int)) from by omega, Option.bind_some, decide_false, cond_false, pkN]
theorem totActS_sum (xs : List (List ActD)) : totActS xs = (xs.map List.length).sum := by
  induction xs with
  | nil => rfl
  | cons x xs ih => simp only [totActS, List.map_cons, List.sum_cons, ih]
theorem totIntS_sum (xs : List (List Int)) : totIntS xs = (xs.map List.length).sum := by
  induction xs with
  | nil => rfl
  | cons x xs ih => simp only [totIntS, List.map_cons, List.sum_cons, ih]
theorem shR_ok (A : List (List ActD)) (B : List (List Int)) (ha : szActSS A ≤ 1048576) (hb : szIntSS B ≤ 1048576) : PkOK (shR A B).1 := by
  unfold szActSS at ha
  unfold szIntSS at hb
  have h1 := pk_len A
  have h2 := pk_len B
  have h3 := pk_sum List.length A
  have h4 := pk_sum List.length B
  rw [← totActS_sum, ← totActS_sum] at h3
  rw [← totIntS_sum, ← totIntS_sum] at h4
  unfold shR
  split
  · exact ⟨by unfold szActSS; simp only; omega, by unfold szIntSS; simp only; omega, by simp only [List.length_map]; omega, by simp only [List.length_map]; omega⟩
  · exact ⟨by simp [szActSS, totActS], by simp [szIntSS, totIntS], by simp, by simp⟩
theorem rowsA {A : List (List ActD)} (h : szActSS A ≤ 1048576) : rowsQ A := fun r hr => by have := totActS_mem hr; unfold szActSS at h; omega
theorem rowsB {B : List (List Int)} (h : szIntSS B ≤ 1048576) : rowsQ B := fun r hr => by have := totIntS_mem hr; unfold szIntSS at h; omega
theorem lawSh (A : List (List ActD)) (B : List (List Int)) (hw : wfTable (A, B)) (ia : ∀ r ∈ A, ∀ a ∈ r, actQ a) (ib : ∀ r ∈ B, ∀ a ∈ r, i64Q a) : Fl_FnExactShrink (A.map avActS) (B.map avIntS) = some true := by
  refine ul_FnExactShrink _ _ ?_
  have h0 := tzTable (A, B) 1048576 hw (by omega) (by omega)
  simp only at h0
  simp only [h0, Option.bind_some]
  by_cases g : szR 1048576 (szTable (A, B)) < 0
  · simp [g]
  · have hs : szTable (A, B) ≤ 1048576 := by have := szR_nn g; omega
    have hab := hs
    unfold szTable at hab
    simp only at hab
    have sa : szActSS A ≤ 1048576 := by omega
    have sb : szIntSS B ≤ 1048576 := by omega
    have hl : A.length ≤ 1048576 := by unfold szActSS at sa; omega
    have e1 := toTable (A, B) (by omega)
    have e2 := eqTable (A, B) (by omega)
    have q1 := cntActSS_le A
    have q2 := cntIntSS_le B
    have e3 := mrTable (A, B) 1 (by omega) (by omega) (by simp only; omega)
    simp only at e1 e2 e3
    have es := shS A B hl (rowsA sa) (rowsB sb)
    have ei := shI A B hl (rowsA sa) (rowsB sb) ia ib
    have ok := shR_ok A B sa sb
    generalize shR A B = v at es ei ok
    obtain ⟨x, c⟩ := v
    simp only at es ei ok
    obtain ⟨y, m1, m2, m3⟩ := ok.marks
    have n1 : ¬ (1 + ((cntActSS A : Nat) : Int) + ((cntIntSS B : Nat) : Int) < 0) := by omega
    have n2 : ¬ (pkN x < 0) := by omega
    simp only [g, decide_false, cond_false, e1, e2, e3, Option.bind_some, asRoL_map2 asRo_ActS, asRoL_map2 asRo_IntS, asRoL_map asRo_iv, es, ei, noRoL_map noRo_ActS, noRoL_map noRo_IntS, noRoL_map noRo_iv, Bool.and_self, cond_true, ok.eq, Bool.not_true, decide_true, m1, m2, n1, n2]
theorem rng_acts {A : List (List ActD)} (h : rngL (A.map avActS) = true) : ∀ r ∈ A, ∀ a ∈ r, actQ a := fun r hr a ha => by
  have h1 := rng_map h r hr
  simp only [avActS, rngQ] at h1
  have h2 := rng_map h1 a ha
  simp only [avAct, rngQ, rngL, Bool.and_true, Bool.and_eq_true] at h2
  exact ⟨wf64 h2.1, wf64 h2.2⟩
theorem rng_ints {B : List (List Int)} (h : rngL (B.map avIntS) = true) : ∀ r ∈ B, ∀ a ∈ r, i64Q a := fun r hr a ha => by
  have h1 := rng_map h r hr
  simp only [avIntS, rngQ] at h1
  exact rng_int (rng_map h1 a ha)
theorem lawShrink : ∀ xs, FitsL ctx [ty_laws_Table] xs → ∃ k, vcall ctx k n_l_FnExactShrink xs [] = some ([.bool true], []) := by
  intro xs h
  obtain ⟨x, r, rfl, h1, h⟩ := h.cons'
  obtain rfl := h.nil'
  have hr := fits_rng h1
  obtain ⟨⟨A, B⟩, rfl, w1⟩ := fitTable h1
  simp only [avTable, rngQ, rngL, Bool.and_true, Bool.and_eq_true] at hr
  exact law_of (S := sgl_FnExactShrink) (a := (A.map avActS, B.map avIntS)) (lawSh A B w1 (rng_acts hr.1) (rng_ints hr.2)) rfl rfl
end Go.Proofs.YtmbnloccmnclnaaDoor
