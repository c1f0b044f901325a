/- Marks that are held; where it is not too large. -/
import Derived.Test.YtmbnloccmnclnaaDoorBpkm
namespace Go.Proofs.YtmbnloccmnclnaaDoor
open Go.VK AVal
theorem hdActS_0 : ∀ (xs : List ActD) (pre : List AVal) (k : Int), pre.length + xs.length ≤ 900000000 → 0 ≤ k → k + (cntActS xs : Nat) ≤ 90000000000 → Ll_heldActS_0 (pre ++ (mkActS k xs).map avAct) k (pre.length : Int) = some (.inr (k + (cntActS xs : Nat)))
  | [], pre, k, hl, h1, h2 => by
    refine ll_heldActS_0 _ _ _ ?_
    simp [mkActS, cntActS]
  | x :: xs, pre, k, hl, h1, h2 => by
    simp only [cntActS, cntAct, List.length_cons] at h2
    simp only [List.length_cons] at hl
    have q : (k + 1 + 1 : Int) = k + ((cntAct x : Nat) : Int) := by simp only [cntAct]; omega
    have ih := hdActS_0 xs (pre ++ [avAct (mkAct k x)]) (k + 1 + 1) (by simp; omega) (by omega) (by omega)
    have ek : mkActS k (x :: xs) = (mkAct k x) :: mkActS (k + 1 + 1) xs := by first | rfl | (rw [q]; rfl)
    rw [ek]
    simp only [List.append_assoc, List.cons_append, List.nil_append, List.length_append, List.length_cons, List.length_nil, Nat.zero_add] at ih
    have hm := mid_len pre ((mkActS (k + 1 + 1) xs).map avAct) (avAct (mkAct k x))
    have m0 : (mkAct k x).1 = k := rfl
    have w0 : IntKind.wrap .i64 (k + 1) = k + 1 := wrap64 (by omega) (by omega)
    have m1 : (mkAct k x).2 = k + 1 := rfl
    have w1 : IntKind.wrap .i64 (k + 1 + 1) = k + 1 + 1 := wrap64 (by omega) (by omega)
    refine ll_heldActS_0 _ _ _ ?_
    simp only [List.map_cons, Int.toNat_natCast, dlt_true hm, d0_true, Bool.and_self, cond_true, cond_false, mid_get, beq_self_eq_true, decide_true, decide_false, Bool.not_true, wrap_succ hm (by simp [mkActS_len]; omega), sh_Act, m0, p0_Act, c0_Act, w0, m1, p1_Act, c1_Act, w1, Option.bind_some, ih, Option.some.injEq, Sum.inr.injEq]
    simp only [cntActS, cntAct, List.length_cons]
    omega
theorem hdActS (xs : List ActD) (k : Int) (hl : xs.length ≤ 900000000) (h1 : 0 ≤ k) (h2 : k + (cntActS xs : Nat) ≤ 90000000000) : Fl_heldActS ((mkActS k xs).map avAct) k = some (k + (cntActS xs : Nat)) := by
  refine ul_heldActS _ _ ?_
  have e := hdActS_0 xs [] k (by simp; omega) h1 h2
  simp only [List.nil_append, List.length_nil, Int.natCast_zero] at e
  simp [e]
theorem hdActSS_0 : ∀ (xs : List (List ActD)) (pre : List AVal) (k : Int), pre.length + xs.length ≤ 900000000 → szActSS xs ≤ 900000000 → 0 ≤ k → k + (cntActSS xs : Nat) ≤ 90000000000 → Ll_heldActSS_0 (pre ++ (mkActSS k xs).map avActS) k (pre.length : Int) = some (.inr (k + (cntActSS xs : Nat)))
  | [], pre, k, hl, hb, h1, h2 => by
    refine ll_heldActSS_0 _ _ _ ?_
    simp [mkActSS, cntActSS]
  | x :: xs, pre, k, hl, hb, h1, h2 => by
    simp only [cntActSS, List.length_cons] at h2
    simp only [szActSS, totActS, List.length_cons] at hb
    simp only [List.length_cons] at hl
    have q : (k + (cntActS x : Nat) : Int) = k + ((cntActS x : Nat) : Int) := by omega
    have ih := hdActSS_0 xs (pre ++ [avActS (mkActS k x)]) (k + (cntActS x : Nat)) (by simp; omega) (by simp only [szActSS]; omega) (by omega) (by omega)
    have ek : mkActSS k (x :: xs) = (mkActS k x) :: mkActSS (k + (cntActS x : Nat)) xs := by first | rfl | (rw [q]; rfl)
    rw [ek]
    simp only [List.append_assoc, List.cons_append, List.nil_append, List.length_append, List.length_cons, List.length_nil, Nat.zero_add] at ih
    have hm := mid_len pre ((mkActSS (k + (cntActS x : Nat)) xs).map avActS) (avActS (mkActS k x))
    have ab : CT.shape (.slice 2) (avActS (mkActS k x)) = true := rfl
    have af : (avActS (mkActS k x)).elems = (mkActS k x).map avAct := rfl
    have am := hdActS x k (by omega) (by omega) (by omega)
    have an : ¬ (k + (cntActS x : Nat) < 0) := by omega
    refine ll_heldActSS_0 _ _ _ ?_
    simp only [List.map_cons, Int.toNat_natCast, dlt_true hm, d0_true, Bool.and_self, cond_true, cond_false, mid_get, beq_self_eq_true, decide_true, decide_false, Bool.not_true, wrap_succ hm (by simp [mkActSS_len]; omega), ab, af, am, an, Option.bind_some, ih, Option.some.injEq, Sum.inr.injEq]
    simp only [cntActSS, List.length_cons]
    omega
theorem hdActSS (xs : List (List ActD)) (k : Int) (hl : szActSS xs ≤ 900000000) (h1 : 0 ≤ k) (h2 : k + (cntActSS xs : Nat) ≤ 90000000000) : Fl_heldActSS ((mkActSS k xs).map avActS) k = some (k + (cntActSS xs : Nat)) := by
  refine ul_heldActSS _ _ ?_
  have e := hdActSS_0 xs [] k (by unfold szActSS at hl; simp; omega) hl h1 h2
  simp only [List.nil_append, List.length_nil, Int.natCast_zero] at e
  simp [e]
theorem hdIntS (xs : List Int) (k : Int) (hl : xs.length ≤ 900000000) (h1 : 0 ≤ k) (h2 : k + (xs.length : Nat) ≤ 90000000000) : Fl_heldIntS ((mkIntS k xs).map iv) k = some (k + (xs.length : Nat)) := by
  refine ul_heldIntS _ _ ?_
  have e := s28_0 xs.length [] k (by simp; omega) h1 (by omega)
  simp only [List.nil_append, List.length_nil, Int.natCast_zero, marks_seq] at e
  simp [e, mkIntS]
theorem hdIntSS_0 : ∀ (xs : List (List Int)) (pre : List AVal) (k : Int), pre.length + xs.length ≤ 900000000 → szIntSS xs ≤ 900000000 → 0 ≤ k → k + (cntIntSS xs : Nat) ≤ 90000000000 → Ll_heldIntSS_0 (pre ++ (mkIntSS k xs).map avIntS) k (pre.length : Int) = some (.inr (k + (cntIntSS xs : Nat)))
  | [], pre, k, hl, hb, h1, h2 => by
    refine ll_heldIntSS_0 _ _ _ ?_
    simp [mkIntSS, cntIntSS]
  | x :: xs, pre, k, hl, hb, h1, h2 => by
    simp only [cntIntSS, List.length_cons] at h2
    simp only [szIntSS, totIntS, List.length_cons] at hb
    simp only [List.length_cons] at hl
    have q : (k + (x.length : Nat) : Int) = k + ((x.length : Nat) : Int) := by omega
    have ih := hdIntSS_0 xs (pre ++ [avIntS (mkIntS k x)]) (k + (x.length : Nat)) (by simp; omega) (by simp only [szIntSS]; omega) (by omega) (by omega)
    have ek : mkIntSS k (x :: xs) = (mkIntS k x) :: mkIntSS (k + (x.length : Nat)) xs := by first | rfl | (rw [q]; rfl)
    rw [ek]
    simp only [List.append_assoc, List.cons_append, List.nil_append, List.length_append, List.length_cons, List.length_nil, Nat.zero_add] at ih
    have hm := mid_len pre ((mkIntSS (k + (x.length : Nat)) xs).map avIntS) (avIntS (mkIntS k x))
    have ab : CT.shape (.slice 1) (avIntS (mkIntS k x)) = true := rfl
    have af : (avIntS (mkIntS k x)).elems = (mkIntS k x).map iv := rfl
    have am := hdIntS x k (by omega) (by omega) (by omega)
    have an : ¬ (k + (x.length : Nat) < 0) := by omega
    refine ll_heldIntSS_0 _ _ _ ?_
    simp only [List.map_cons, Int.toNat_natCast, dlt_true hm, d0_true, Bool.and_self, cond_true, cond_false, mid_get, beq_self_eq_true, decide_true, decide_false, Bool.not_true, wrap_succ hm (by simp [mkIntSS_len]; omega), ab, af, am, an, Option.bind_some, ih, Option.some.injEq, Sum.inr.injEq]
    simp only [cntIntSS, List.length_cons]
    omega
theorem hdIntSS (xs : List (List Int)) (k : Int) (hl : szIntSS xs ≤ 900000000) (h1 : 0 ≤ k) (h2 : k + (cntIntSS xs : Nat) ≤ 90000000000) : Fl_heldIntSS ((mkIntSS k xs).map avIntS) k = some (k + (cntIntSS xs : Nat)) := by
  refine ul_heldIntSS _ _ ?_
  have e := hdIntSS_0 xs [] k (by unfold szIntSS at hl; simp; omega) hl h1 h2
  simp only [List.nil_append, List.length_nil, Int.natCast_zero] at e
  simp [e]
theorem hdTable (x : TableD) (k : Int) (h : szTable x ≤ 900000000) (h1 : 0 ≤ k) (h2 : k + (cntActSS x.1 : Nat) + (cntIntSS x.2 : Nat) ≤ 90000000000) : Fl_heldTable ((mkActSS k x.1).map avActS) ((mkIntSS (k + (cntActSS x.1 : Nat)) x.2).map avIntS) k = some (k + (cntActSS x.1 : Nat) + (cntIntSS x.2 : Nat)) := by
  unfold szTable at h
  refine ul_heldTable _ _ _ ?_
  simp only [hdActSS x.1 k (by omega) (by omega) (by omega), show ¬ (k + (cntActSS x.1 : Nat) < 0) from by omega, hdIntSS x.2 (k + (cntActSS x.1 : Nat)) (by omega) (by omega) (by omega), show ¬ (k + (cntActSS x.1 : Nat) + (cntIntSS x.2 : Nat) < 0) from by omega, Option.bind_some, decide_false, cond_false]
theorem hdPacked (x : PackedD) (k : Int) (h : szPacked x ≤ 900000000) (h1 : 0 ≤ k) (h2 : k + (cntActSS x.1 : Nat) + (cntIntSS x.2.1 : Nat) + (x.2.2.1.length : Nat) + (x.2.2.2.length : Nat) ≤ 90000000000) : Fl_heldPacked ((mkActSS k x.1).map avActS) ((mkIntSS (k + (cntActSS x.1 : Nat)) x.2.1).map avIntS) ((mkIntS (k + (cntActSS x.1 : Nat) + (cntIntSS x.2.1 : Nat)) x.2.2.1).map iv) ((mkIntS (k + (cntActSS x.1 : Nat) + (cntIntSS x.2.1 : Nat) + (x.2.2.1.length : Nat)) x.2.2.2).map iv) k = some (k + (cntActSS x.1 : Nat) + (cntIntSS x.2.1 : Nat) + (x.2.2.1.length : Nat) + (x.2.2.2.length : Nat)) := by
  unfold szPacked at h
  refine ul_heldPacked _ _ _ _ _ ?_
  simp only [hdActSS x.1 k (by omega) (by omega) (by omega), show ¬ (k + (cntActSS x.1 : Nat) < 0) from by omega, hdIntSS x.2.1 (k + (cntActSS x.1 : Nat)) (by omega) (by omega) (by omega), show ¬ (k + (cntActSS x.1 : Nat) + (cntIntSS x.2.1 : Nat) < 0) from by omega, hdIntS x.2.2.1 (k + (cntActSS x.1 : Nat) + (cntIntSS x.2.1 : Nat)) (by omega) (by omega) (by omega), show ¬ (k + (cntActSS x.1 : Nat) + (cntIntSS x.2.1 : Nat) + (x.2.2.1.length : Nat) < 0) from by omega, hdIntS x.2.2.2 (k + (cntActSS x.1 : Nat) + (cntIntSS x.2.1 : Nat) + (x.2.2.1.length : Nat)) (by omega) (by omega) (by omega), show ¬ (k + (cntActSS x.1 : Nat) + (cntIntSS x.2.1 : Nat) + (x.2.2.1.length : Nat) + (x.2.2.2.length : Nat) < 0) from by omega, Option.bind_some, decide_false, cond_false]
end Go.Proofs.YtmbnloccmnclnaaDoor
