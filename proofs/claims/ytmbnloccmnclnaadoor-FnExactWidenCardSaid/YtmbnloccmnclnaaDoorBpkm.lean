/- Marks on plain data; where it is not too large. -/
import Derived.Test.YtmbnloccmnclnaaDoorBpk
import Derived.Test.YtmbnloccmnclnaaDoorXn
namespace Go.Proofs.YtmbnloccmnclnaaDoor
open Go.VK AVal
def cntAct (_ : ActD) : Nat := 2
noncomputable def mkAct (k : Int) (_ : ActD) : ActD := (k, k + 1)
def cntActS : List ActD → Nat
  | [] => 0
  | x :: r => cntAct x + cntActS r
noncomputable def mkActS : Int → List ActD → List ActD
  | _, [] => []
  | k, x :: r => mkAct k x :: mkActS (k + (cntAct x : Nat)) r
theorem mkActS_len : ∀ (k : Int) (xs : List ActD), (mkActS k xs).length = xs.length
  | _, [] => rfl
  | k, x :: r => by simp [mkActS, mkActS_len]
theorem mrActS_0 : ∀ (xs : List ActD) (pre : List AVal) (k : Int), pre.length + xs.length ≤ 900000000 → 0 ≤ k → k + (cntActS xs : Nat) ≤ 90000000000 → Ll_markActS_0 k (pre.length : Int) (pre ++ xs.map avAct) = some (k + (cntActS xs : Nat), pre ++ (mkActS k xs).map avAct)
  | [], pre, k, hl, h1, h2 => by
    refine ll_markActS_0 _ _ _ ?_
    simp [mkActS, cntActS]
  | x :: xs, pre, k, hl, h1, h2 => by
    simp only [cntActS, cntAct, List.length_cons] at h2
    simp only [List.length_cons] at hl
    have ih := mrActS_0 xs (pre ++ [avAct (mkAct k x)]) (k + 1 + 1) (by simp; omega) (by omega) (by omega)
    simp only [List.append_assoc, List.cons_append, List.nil_append, List.length_append, List.length_cons, List.length_nil, Nat.zero_add] at ih
    have hm : ∀ y : AVal, pre.length < (pre ++ y :: xs.map avAct).length := fun y => mid_len pre (xs.map avAct) y
    have ez : avAct x = avAct (x.1, x.2) := rfl
    have a0 : aggQ (avAct (x.1, x.2)) = true := rfl
    have b0 : Nat.ble 1 (avAct (x.1, x.2)).cells.length = true := rfl
    have f0 : AVal.agg (setMany (avAct (x.1, x.2)).cells 0 [.int .i64 k]) = avAct (k, x.2) := rfl
    have w0 : IntKind.wrap .i64 (k + 1) = k + 1 := wrap64 (by omega) (by omega)
    have a1 : aggQ (avAct (k, x.2)) = true := rfl
    have b1 : Nat.ble 2 (avAct (k, x.2)).cells.length = true := rfl
    have f1 : AVal.agg (setMany (avAct (k, x.2)).cells 1 [.int .i64 (k + 1)]) = avAct (k, k + 1) := rfl
    have w1 : IntKind.wrap .i64 (k + 1 + 1) = k + 1 + 1 := wrap64 (by omega) (by omega)
    have em : avAct (k, k + 1) = avAct (mkAct k x) := rfl
    refine ll_markActS_0 _ _ _ ?_
    simp only [List.map_cons, Int.toNat_natCast, dlt_true (hm _), d0_true, Bool.and_self, cond_true, mid_get, blt_true (hm _), mid_set, wrap_succ (hm (avAct x)) (by simp; omega), ez, a0, b0, f0, w0, a1, b1, f1, w1, em, Option.bind_some, Bool.not_false, Bool.true_and, Bool.and_true, bnd_eq, ih]
    have q : (k + 1 + 1 : Int) = k + ((cntAct x : Nat) : Int) := by simp only [cntAct]; omega
    have r : (k + 1 + 1 : Int) + ((cntActS xs : Nat) : Int) = k + ((cntAct x + cntActS xs : Nat) : Int) := by simp only [cntAct]; omega
    rw [show mkActS k (x :: xs) = (mkAct k x) :: mkActS (k + ((cntAct x : Nat) : Int)) xs from rfl, ← q, show cntActS (x :: xs) = cntAct x + cntActS xs from rfl, r]
    rfl
theorem mrActS (xs : List ActD) (k : Int) (hl : xs.length ≤ 900000000) (h1 : 0 ≤ k) (h2 : k + (cntActS xs : Nat) ≤ 90000000000) : Fl_markActS k (xs.map avAct) = some (k + (cntActS xs : Nat), (mkActS k xs).map avAct) := by
  refine ul_markActS _ _ ?_
  have e := mrActS_0 xs [] k (by simp; omega) h1 h2
  simp only [List.nil_append, List.length_nil, Int.natCast_zero] at e
  simp [e]
def cntActSS : List (List ActD) → Nat
  | [] => 0
  | x :: r => cntActS x + cntActSS r
noncomputable def mkActSS : Int → List (List ActD) → List (List ActD)
  | _, [] => []
  | k, x :: r => mkActS k x :: mkActSS (k + (cntActS x : Nat)) r
theorem mkActSS_len : ∀ (k : Int) (xs : List (List ActD)), (mkActSS k xs).length = xs.length
  | _, [] => rfl
  | k, x :: r => by simp [mkActSS, mkActSS_len]
theorem mrActSS_0 : ∀ (xs : List (List ActD)) (pre : List AVal) (k : Int), pre.length + xs.length ≤ 900000000 → szActSS xs ≤ 900000000 → 0 ≤ k → k + (cntActSS xs : Nat) ≤ 90000000000 → Ll_markActSS_0 k (pre.length : Int) (pre ++ xs.map aoActS) = some (k + (cntActSS xs : Nat), pre ++ (mkActSS k xs).map aoActS)
  | [], pre, k, hl, hb, h1, h2 => by
    refine ll_markActSS_0 _ _ _ ?_
    simp [mkActSS, cntActSS]
  | x :: xs, pre, k, hl, hb, h1, h2 => by
    simp only [cntActSS, List.length_cons] at h2
    simp only [szActSS, totActS, List.length_cons] at hb
    simp only [List.length_cons] at hl
    have ih := mrActSS_0 xs (pre ++ [aoActS (mkActS k x)]) (k + (cntActS x : Nat)) (by simp; omega) (by simp only [szActSS]; omega) (by omega) (by omega)
    simp only [List.append_assoc, List.cons_append, List.nil_append, List.length_append, List.length_cons, List.length_nil, Nat.zero_add] at ih
    have hm : ∀ y : AVal, pre.length < (pre ++ y :: xs.map aoActS).length := fun y => mid_len pre (xs.map aoActS) y
    have a0 : aggQ (aoActS x) = false := rfl
    have ab : CT.shape (.slice 2) (aoActS x) = true := rfl
    have ad : lend.isOwn (aoActS x) = true := rfl
    have ae : CT.shOwn (.slice 2) (aoActS x) = true := rfl
    have af : (aoActS x).elems = x.map avAct := rfl
    have ah : aggQ AVal.und = false := rfl
    have ai : AVal.own 2 ((mkActS k x).map avAct) = aoActS (mkActS k x) := rfl
    have gg : ∀ v : AVal, v.get [] = v := fun v => by cases v <;> rfl
    have gp : ∀ v u : AVal, v.put [] u = u := fun v u => by cases v <;> rfl
    have go : ∀ v : AVal, v.okp [] = true := fun v => by cases v <;> rfl
    have gq : ∀ v : AVal, v.okg [] = true := fun v => by cases v <;> rfl
    have am := mrActS x k (by omega) (by omega) (by omega)
    refine ll_markActSS_0 _ _ _ ?_
    simp only [List.map_cons, Int.toNat_natCast, dlt_true (hm _), d0_true, Bool.and_self, cond_true, mid_get, blt_true (hm _), mid_set, wrap_succ (hm (aoActS x)) (by simp; omega), gg, gp, go, gq, a0, ab, ad, ae, af, ah, ai, am, Option.bind_some, Bool.not_false, Bool.true_and, Bool.and_true, bnd_eq, ih]
    have q : (k + (cntActS x : Nat) : Int) = k + ((cntActS x : Nat) : Int) := by omega
    have r : (k + (cntActS x : Nat) : Int) + ((cntActSS xs : Nat) : Int) = k + ((cntActS x + cntActSS xs : Nat) : Int) := by omega
    rw [show mkActSS k (x :: xs) = (mkActS k x) :: mkActSS (k + ((cntActS x : Nat) : Int)) xs from rfl, ← q, show cntActSS (x :: xs) = cntActS x + cntActSS xs from rfl, r]
    rfl
theorem mrActSS (xs : List (List ActD)) (k : Int) (hl : szActSS xs ≤ 900000000) (h1 : 0 ≤ k) (h2 : k + (cntActSS xs : Nat) ≤ 90000000000) : Fl_markActSS k (xs.map aoActS) = some (k + (cntActSS xs : Nat), (mkActSS k xs).map aoActS) := by
  refine ul_markActSS _ _ ?_
  have e := mrActSS_0 xs [] k (by unfold szActSS at hl; simp; omega) hl h1 h2
  simp only [List.nil_append, List.length_nil, Int.natCast_zero] at e
  simp [e]
def mkIntS (k : Int) (xs : List Int) : List Int := seqI k xs.length
theorem mrIntS (xs : List Int) (k : Int) (hl : xs.length ≤ 900000000) (h1 : 0 ≤ k) (h2 : k + (xs.length : Nat) ≤ 90000000000) : Fl_markIntS k (xs.map iv) = some (k + (xs.length : Nat), (mkIntS k xs).map iv) := by
  refine ul_markIntS _ _ ?_
  have e := s26_0 xs [] k (by simp; omega) h1 (by omega)
  simp only [List.nil_append, List.length_nil, Int.natCast_zero] at e
  simp [e, mkIntS, marks_seq]
def cntIntSS : List (List Int) → Nat
  | [] => 0
  | x :: r => x.length + cntIntSS r
noncomputable def mkIntSS : Int → List (List Int) → List (List Int)
  | _, [] => []
  | k, x :: r => mkIntS k x :: mkIntSS (k + (x.length : Nat)) r
theorem mkIntSS_len : ∀ (k : Int) (xs : List (List Int)), (mkIntSS k xs).length = xs.length
  | _, [] => rfl
  | k, x :: r => by simp [mkIntSS, mkIntSS_len]
theorem mrIntSS_0 : ∀ (xs : List (List Int)) (pre : List AVal) (k : Int), pre.length + xs.length ≤ 900000000 → szIntSS xs ≤ 900000000 → 0 ≤ k → k + (cntIntSS xs : Nat) ≤ 90000000000 → Ll_markIntSS_0 k (pre.length : Int) (pre ++ xs.map aoIntS) = some (k + (cntIntSS xs : Nat), pre ++ (mkIntSS k xs).map aoIntS)
  | [], pre, k, hl, hb, h1, h2 => by
    refine ll_markIntSS_0 _ _ _ ?_
    simp [mkIntSS, cntIntSS]
  | x :: xs, pre, k, hl, hb, h1, h2 => by
    simp only [cntIntSS, List.length_cons] at h2
    simp only [szIntSS, totIntS, List.length_cons] at hb
    simp only [List.length_cons] at hl
    have ih := mrIntSS_0 xs (pre ++ [aoIntS (mkIntS k x)]) (k + (x.length : Nat)) (by simp; omega) (by simp only [szIntSS]; omega) (by omega) (by omega)
    simp only [List.append_assoc, List.cons_append, List.nil_append, List.length_append, List.length_cons, List.length_nil, Nat.zero_add] at ih
    have hm : ∀ y : AVal, pre.length < (pre ++ y :: xs.map aoIntS).length := fun y => mid_len pre (xs.map aoIntS) y
    have a0 : aggQ (aoIntS x) = false := rfl
    have ab : CT.shape (.slice 1) (aoIntS x) = true := rfl
    have ad : lend.isOwn (aoIntS x) = true := rfl
    have ae : CT.shOwn (.slice 1) (aoIntS x) = true := rfl
    have af : (aoIntS x).elems = x.map iv := rfl
    have ah : aggQ AVal.und = false := rfl
    have ai : AVal.own 1 ((mkIntS k x).map iv) = aoIntS (mkIntS k x) := rfl
    have gg : ∀ v : AVal, v.get [] = v := fun v => by cases v <;> rfl
    have gp : ∀ v u : AVal, v.put [] u = u := fun v u => by cases v <;> rfl
    have go : ∀ v : AVal, v.okp [] = true := fun v => by cases v <;> rfl
    have gq : ∀ v : AVal, v.okg [] = true := fun v => by cases v <;> rfl
    have am := mrIntS x k (by omega) (by omega) (by omega)
    refine ll_markIntSS_0 _ _ _ ?_
    simp only [List.map_cons, Int.toNat_natCast, dlt_true (hm _), d0_true, Bool.and_self, cond_true, mid_get, blt_true (hm _), mid_set, wrap_succ (hm (aoIntS x)) (by simp; omega), gg, gp, go, gq, a0, ab, ad, ae, af, ah, ai, am, Option.bind_some, Bool.not_false, Bool.true_and, Bool.and_true, bnd_eq, ih]
    have q : (k + (x.length : Nat) : Int) = k + ((x.length : Nat) : Int) := by omega
    have r : (k + (x.length : Nat) : Int) + ((cntIntSS xs : Nat) : Int) = k + ((x.length + cntIntSS xs : Nat) : Int) := by omega
    rw [show mkIntSS k (x :: xs) = (mkIntS k x) :: mkIntSS (k + ((x.length : Nat) : Int)) xs from rfl, ← q, show cntIntSS (x :: xs) = x.length + cntIntSS xs from rfl, r]
    rfl
theorem mrIntSS (xs : List (List Int)) (k : Int) (hl : szIntSS xs ≤ 900000000) (h1 : 0 ≤ k) (h2 : k + (cntIntSS xs : Nat) ≤ 90000000000) : Fl_markIntSS k (xs.map aoIntS) = some (k + (cntIntSS xs : Nat), (mkIntSS k xs).map aoIntS) := by
  refine ul_markIntSS _ _ ?_
  have e := mrIntSS_0 xs [] k (by unfold szIntSS at hl; simp; omega) hl h1 h2
  simp only [List.nil_append, List.length_nil, Int.natCast_zero] at e
  simp [e]
def cntTable (x : TableD) : Nat := cntActSS x.1 + cntIntSS x.2
noncomputable def mkTable (k : Int) (x : TableD) : TableD := (mkActSS k x.1, mkIntSS (k + (cntActSS x.1 : Nat)) x.2)
theorem mrTable (x : TableD) (k : Int) (h : szTable x ≤ 900000000) (h1 : 0 ≤ k) (h2 : k + (cntActSS x.1 : Nat) + (cntIntSS x.2 : Nat) ≤ 90000000000) : Fl_markTable k (x.1.map aoActS) (x.2.map aoIntS) = some (k + (cntActSS x.1 : Nat) + (cntIntSS x.2 : Nat), ((mkActSS k x.1).map aoActS), ((mkIntSS (k + (cntActSS x.1 : Nat)) x.2).map aoIntS)) := by
  unfold szTable at h
  refine ul_markTable _ _ _ ?_
  simp only [mrActSS x.1 k (by omega) (by omega) (by omega), mrIntSS x.2 (k + (cntActSS x.1 : Nat)) (by omega) (by omega) (by omega), Option.bind_some]
def cntPacked (x : PackedD) : Nat := cntActSS x.1 + cntIntSS x.2.1 + x.2.2.1.length + x.2.2.2.length
noncomputable def mkPacked (k : Int) (x : PackedD) : PackedD := (mkActSS k x.1, mkIntSS (k + (cntActSS x.1 : Nat)) x.2.1, mkIntS (k + (cntActSS x.1 : Nat) + (cntIntSS x.2.1 : Nat)) x.2.2.1, mkIntS (k + (cntActSS x.1 : Nat) + (cntIntSS x.2.1 : Nat) + (x.2.2.1.length : Nat)) x.2.2.2)
theorem mrPacked (x : PackedD) (k : Int) (h : szPacked x ≤ 900000000) (h1 : 0 ≤ k) (h2 : k + (cntActSS x.1 : Nat) + (cntIntSS x.2.1 : Nat) + (x.2.2.1.length : Nat) + (x.2.2.2.length : Nat) ≤ 90000000000) : Fl_markPacked k (x.1.map aoActS) (x.2.1.map aoIntS) (x.2.2.1.map iv) (x.2.2.2.map iv) = some (k + (cntActSS x.1 : Nat) + (cntIntSS x.2.1 : Nat) + (x.2.2.1.length : Nat) + (x.2.2.2.length : Nat), ((mkActSS k x.1).map aoActS), ((mkIntSS (k + (cntActSS x.1 : Nat)) x.2.1).map aoIntS), ((mkIntS (k + (cntActSS x.1 : Nat) + (cntIntSS x.2.1 : Nat)) x.2.2.1).map iv), ((mkIntS (k + (cntActSS x.1 : Nat) + (cntIntSS x.2.1 : Nat) + (x.2.2.1.length : Nat)) x.2.2.2).map iv)) := by
  unfold szPacked at h
  refine ul_markPacked _ _ _ _ _ ?_
  simp only [mrActSS x.1 k (by omega) (by omega) (by omega), mrIntSS x.2.1 (k + (cntActSS x.1 : Nat)) (by omega) (by omega) (by omega), mrIntS x.2.2.1 (k + (cntActSS x.1 : Nat) + (cntIntSS x.2.1 : Nat)) (by omega) (by omega) (by omega), mrIntS x.2.2.2 (k + (cntActSS x.1 : Nat) + (cntIntSS x.2.1 : Nat) + (x.2.2.1.length : Nat)) (by omega) (by omega) (by omega), Option.bind_some]
end Go.Proofs.YtmbnloccmnclnaaDoor
