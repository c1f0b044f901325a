/- Marks on plain data; where it is not too large. -/
import Derived.Test.YtmbnloccmnclnaaBw
import Derived.Test.YtmbnloccmnclnaaBbm
namespace Go.Proofs.Ytmbnloccmnclnaa
open Go.VK AVal
def cntWord (_ : WordD) : Nat := 6
noncomputable def mkWord (k : Int) (_ : WordD) : WordD := ((mt k), (mt (k + 1)), k + 1 + 1, k + 1 + 1 + 1, (decide (Int.tmod (k + 1 + 1 + 1 + 1) 3 = 0)), (mt (k + 1 + 1 + 1 + 1 + 1)))
def cntWordS : List WordD → Nat
  | [] => 0
  | x :: r => cntWord x + cntWordS r
noncomputable def mkWordS : Int → List WordD → List WordD
  | _, [] => []
  | k, x :: r => mkWord k x :: mkWordS (k + (cntWord x : Nat)) r
theorem mkWordS_len : ∀ (k : Int) (xs : List WordD), (mkWordS k xs).length = xs.length
  | _, [] => rfl
  | k, x :: r => by simp [mkWordS, mkWordS_len]
theorem mrWordS_0 : ∀ (xs : List WordD) (pre : List AVal) (k : Int), pre.length + xs.length ≤ 1048576 → 0 ≤ k → k + (cntWordS xs : Nat) ≤ 90000000000 → Ll_markWordS_0 k (pre.length : Int) (pre ++ xs.map avWord) = some (k + (cntWordS xs : Nat), pre ++ (mkWordS k xs).map avWord)
  | [], pre, k, hl, h1, h2 => by
    refine ll_markWordS_0 _ _ _ ?_
    simp [mkWordS, cntWordS]
  | x :: xs, pre, k, hl, h1, h2 => by
    simp only [cntWordS, cntWord, List.length_cons] at h2
    simp only [List.length_cons] at hl
    have ih := mrWordS_0 xs (pre ++ [avWord (mkWord k x)]) (k + 1 + 1 + 1 + 1 + 1 + 1) (by simp; omega) (by omega) (by omega)
    simp only [List.append_assoc, List.cons_append, List.nil_append, List.length_append, List.length_cons, List.length_nil, Nat.zero_add] at ih
    have hm : ∀ y : AVal, pre.length < (pre ++ y :: xs.map avWord).length := fun y => mid_len pre (xs.map avWord) y
    have ez : avWord x = avWord (x.1, x.2.1, x.2.2.1, x.2.2.2.1, x.2.2.2.2.1, x.2.2.2.2.2) := rfl
    have a0 : aggQ (avWord (x.1, x.2.1, x.2.2.1, x.2.2.2.1, x.2.2.2.2.1, x.2.2.2.2.2)) = true := rfl
    have b0 : Nat.ble 1 (avWord (x.1, x.2.1, x.2.2.1, x.2.2.2.1, x.2.2.2.2.1, x.2.2.2.2.2)).cells.length = true := rfl
    have f0 : AVal.agg (setMany (avWord (x.1, x.2.1, x.2.2.1, x.2.2.2.1, x.2.2.2.2.1, x.2.2.2.2.2)).cells 0 [.str (mt k)]) = avWord ((mt k), x.2.1, x.2.2.1, x.2.2.2.1, x.2.2.2.2.1, x.2.2.2.2.2) := rfl
    have w0 : IntKind.wrap .i64 (k + 1) = k + 1 := wrap64 (by omega) (by omega)
    have a1 : aggQ (avWord ((mt k), x.2.1, x.2.2.1, x.2.2.2.1, x.2.2.2.2.1, x.2.2.2.2.2)) = true := rfl
    have b1 : Nat.ble 2 (avWord ((mt k), x.2.1, x.2.2.1, x.2.2.2.1, x.2.2.2.2.1, x.2.2.2.2.2)).cells.length = true := rfl
    have f1 : AVal.agg (setMany (avWord ((mt k), x.2.1, x.2.2.1, x.2.2.2.1, x.2.2.2.2.1, x.2.2.2.2.2)).cells 1 [.str (mt (k + 1))]) = avWord ((mt k), (mt (k + 1)), x.2.2.1, x.2.2.2.1, x.2.2.2.2.1, x.2.2.2.2.2) := rfl
    have w1 : IntKind.wrap .i64 (k + 1 + 1) = k + 1 + 1 := wrap64 (by omega) (by omega)
    have a2 : aggQ (avWord ((mt k), (mt (k + 1)), x.2.2.1, x.2.2.2.1, x.2.2.2.2.1, x.2.2.2.2.2)) = true := rfl
    have b2 : Nat.ble 3 (avWord ((mt k), (mt (k + 1)), x.2.2.1, x.2.2.2.1, x.2.2.2.2.1, x.2.2.2.2.2)).cells.length = true := rfl
    have f2 : AVal.agg (setMany (avWord ((mt k), (mt (k + 1)), x.2.2.1, x.2.2.2.1, x.2.2.2.2.1, x.2.2.2.2.2)).cells 2 [.int .i64 (k + 1 + 1)]) = avWord ((mt k), (mt (k + 1)), k + 1 + 1, x.2.2.2.1, x.2.2.2.2.1, x.2.2.2.2.2) := rfl
    have w2 : IntKind.wrap .i64 (k + 1 + 1 + 1) = k + 1 + 1 + 1 := wrap64 (by omega) (by omega)
    have a3 : aggQ (avWord ((mt k), (mt (k + 1)), k + 1 + 1, x.2.2.2.1, x.2.2.2.2.1, x.2.2.2.2.2)) = true := rfl
    have b3 : Nat.ble 4 (avWord ((mt k), (mt (k + 1)), k + 1 + 1, x.2.2.2.1, x.2.2.2.2.1, x.2.2.2.2.2)).cells.length = true := rfl
    have f3 : AVal.agg (setMany (avWord ((mt k), (mt (k + 1)), k + 1 + 1, x.2.2.2.1, x.2.2.2.2.1, x.2.2.2.2.2)).cells 3 [.int .i64 (k + 1 + 1 + 1)]) = avWord ((mt k), (mt (k + 1)), k + 1 + 1, k + 1 + 1 + 1, x.2.2.2.2.1, x.2.2.2.2.2) := rfl
    have w3 : IntKind.wrap .i64 (k + 1 + 1 + 1 + 1) = k + 1 + 1 + 1 + 1 := wrap64 (by omega) (by omega)
    have a4 : aggQ (avWord ((mt k), (mt (k + 1)), k + 1 + 1, k + 1 + 1 + 1, x.2.2.2.2.1, x.2.2.2.2.2)) = true := rfl
    have b4 : Nat.ble 5 (avWord ((mt k), (mt (k + 1)), k + 1 + 1, k + 1 + 1 + 1, x.2.2.2.2.1, x.2.2.2.2.2)).cells.length = true := rfl
    have f4 : AVal.agg (setMany (avWord ((mt k), (mt (k + 1)), k + 1 + 1, k + 1 + 1 + 1, x.2.2.2.2.1, x.2.2.2.2.2)).cells 4 [.bool (decide (Int.tmod (k + 1 + 1 + 1 + 1) 3 = 0))]) = avWord ((mt k), (mt (k + 1)), k + 1 + 1, k + 1 + 1 + 1, (decide (Int.tmod (k + 1 + 1 + 1 + 1) 3 = 0)), x.2.2.2.2.2) := rfl
    have w4 : IntKind.wrap .i64 (k + 1 + 1 + 1 + 1 + 1) = k + 1 + 1 + 1 + 1 + 1 := wrap64 (by omega) (by omega)
    have a5 : aggQ (avWord ((mt k), (mt (k + 1)), k + 1 + 1, k + 1 + 1 + 1, (decide (Int.tmod (k + 1 + 1 + 1 + 1) 3 = 0)), x.2.2.2.2.2)) = true := rfl
    have b5 : Nat.ble 6 (avWord ((mt k), (mt (k + 1)), k + 1 + 1, k + 1 + 1 + 1, (decide (Int.tmod (k + 1 + 1 + 1 + 1) 3 = 0)), x.2.2.2.2.2)).cells.length = true := rfl
    have f5 : AVal.agg (setMany (avWord ((mt k), (mt (k + 1)), k + 1 + 1, k + 1 + 1 + 1, (decide (Int.tmod (k + 1 + 1 + 1 + 1) 3 = 0)), x.2.2.2.2.2)).cells 5 [.str (mt (k + 1 + 1 + 1 + 1 + 1))]) = avWord ((mt k), (mt (k + 1)), k + 1 + 1, k + 1 + 1 + 1, (decide (Int.tmod (k + 1 + 1 + 1 + 1) 3 = 0)), (mt (k + 1 + 1 + 1 + 1 + 1))) := rfl
    have w5 : IntKind.wrap .i64 (k + 1 + 1 + 1 + 1 + 1 + 1) = k + 1 + 1 + 1 + 1 + 1 + 1 := wrap64 (by omega) (by omega)
    have em : avWord ((mt k), (mt (k + 1)), k + 1 + 1, k + 1 + 1 + 1, (decide (Int.tmod (k + 1 + 1 + 1 + 1) 3 = 0)), (mt (k + 1 + 1 + 1 + 1 + 1))) = avWord (mkWord k x) := rfl
    refine ll_markWordS_0 _ _ _ ?_
    simp only [List.map_cons, Int.toNat_natCast, dlt_true (hm _), d0_true, Bool.and_self, cond_true, mid_get, blt_true (hm _), mid_set, wrap_succ (hm (avWord x)) (by simp; omega), ez, a0, b0, f0, w0, s122 (k) (by omega), a1, b1, f1, w1, s122 (k + 1) (by omega), a2, b2, f2, w2, a3, b3, f3, w3, a4, b4, f4, w4, a5, b5, f5, w5, s122 (k + 1 + 1 + 1 + 1 + 1) (by omega), em, Option.bind_some, Bool.not_false, Bool.true_and, Bool.and_true, bnd_eq, ih]
    have q : (k + 1 + 1 + 1 + 1 + 1 + 1 : Int) = k + ((cntWord x : Nat) : Int) := by simp only [cntWord]; omega
    have r : (k + 1 + 1 + 1 + 1 + 1 + 1 : Int) + ((cntWordS xs : Nat) : Int) = k + ((cntWord x + cntWordS xs : Nat) : Int) := by simp only [cntWord]; omega
    rw [show mkWordS k (x :: xs) = (mkWord k x) :: mkWordS (k + ((cntWord x : Nat) : Int)) xs from rfl, ← q, show cntWordS (x :: xs) = cntWord x + cntWordS xs from rfl, r]
    rfl
theorem mrWordS (xs : List WordD) (k : Int) (hl : szWordS xs ≤ 1048576) (h1 : 0 ≤ k) (h2 : k + (cntWordS xs : Nat) ≤ 90000000000) : Fl_markWordS k (xs.map avWord) = some (k + (cntWordS xs : Nat), (mkWordS k xs).map avWord) := by
  refine ul_markWordS _ _ ?_
  have e := mrWordS_0 xs [] k (by unfold szWordS at hl; simp; omega) h1 h2
  simp only [List.nil_append, List.length_nil, Int.natCast_zero] at e
  simp [e]
end Go.Proofs.Ytmbnloccmnclnaa
