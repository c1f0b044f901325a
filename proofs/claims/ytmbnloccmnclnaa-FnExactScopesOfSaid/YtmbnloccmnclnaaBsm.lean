/- Small structs as plain data, and what the helpers of the laws do to rows of them; where a row is not too long. -/
import Derived.Test.YtmbnloccmnclnaaBsf
import Derived.Test.YtmbnloccmnclnaaMt
namespace Go.Proofs.Ytmbnloccmnclnaa
open Go.VK AVal
noncomputable def mkSEdge (k : Int) : SEdgeD := (k, (k + 1), (k + 2))
noncomputable def mkSEdgeS : Int → Nat → List SEdgeD
  | _, 0 => []
  | k, m + 1 => mkSEdge k :: mkSEdgeS (k + 3) m
theorem mkSEdgeS_len : ∀ (k : Int) (m : Nat), (mkSEdgeS k m).length = m
  | _, 0 => rfl
  | k, m + 1 => by simp [mkSEdgeS, mkSEdgeS_len]
theorem mrSEdgeS_0 : ∀ (xs : List SEdgeD) (pre : List AVal) (k : Int), pre.length + xs.length ≤ 1048576 → 0 ≤ k → k + 3 * xs.length ≤ 90000000000 → Ll_markSEdgeS_0 k (pre.length : Int) (pre ++ xs.map avSEdge) = some (k + 3 * xs.length, pre ++ (mkSEdgeS k xs.length).map avSEdge)
  | [], pre, k, hl, h1, h2 => by
    refine ll_markSEdgeS_0 _ _ _ ?_
    simp [mkSEdgeS]
  | x :: xs, pre, k, hl, h1, h2 => by
    simp only [List.length_cons] at hl h2
    have ih := mrSEdgeS_0 xs (pre ++ [avSEdge (mkSEdge k)]) (k + 3) (by simp; omega) (by omega) (by omega)
    simp only [List.append_assoc, List.cons_append, List.nil_append, List.length_append, List.length_cons, List.length_nil, Nat.zero_add] at ih
    have ew1 : IntKind.wrap .i64 (k + 1) = k + 1 := by rw [wrap64 (by omega) (by omega)]
    have ew2 : IntKind.wrap .i64 (k + 1 + 1) = k + 2 := by rw [wrap64 (by omega) (by omega)]; omega
    have ew3 : IntKind.wrap .i64 (k + 2 + 1) = k + 3 := by rw [wrap64 (by omega) (by omega)]; omega
    have hm : ∀ y : AVal, pre.length < (pre ++ y :: xs.map avSEdge).length := fun y => mid_len pre (xs.map avSEdge) y
    have ez : avSEdge x = avSEdge (x.1, x.2.1, x.2.2) := rfl
    have em : avSEdge (k, (k + 1), (k + 2)) = avSEdge (mkSEdge k) := rfl
    have a0 : aggQ (avSEdge (x.1, x.2.1, x.2.2)) = true := rfl
    have b0 : Nat.ble 1 (avSEdge (x.1, x.2.1, x.2.2)).cells.length = true := rfl
    have f0 : AVal.agg (setMany (avSEdge (x.1, x.2.1, x.2.2)).cells 0 [.int .i64 k]) = avSEdge (k, x.2.1, x.2.2) := rfl
    have a1 : aggQ (avSEdge (k, x.2.1, x.2.2)) = true := rfl
    have b1 : Nat.ble 2 (avSEdge (k, x.2.1, x.2.2)).cells.length = true := rfl
    have f1 : AVal.agg (setMany (avSEdge (k, x.2.1, x.2.2)).cells 1 [.int .i64 (k + 1)]) = avSEdge (k, (k + 1), x.2.2) := rfl
    have a2 : aggQ (avSEdge (k, (k + 1), x.2.2)) = true := rfl
    have b2 : Nat.ble 3 (avSEdge (k, (k + 1), x.2.2)).cells.length = true := rfl
    have f2 : AVal.agg (setMany (avSEdge (k, (k + 1), x.2.2)).cells 2 [.int .i64 (k + 2)]) = avSEdge (k, (k + 1), (k + 2)) := rfl
    refine ll_markSEdgeS_0 _ _ _ ?_
    simp only [List.map_cons, ez, Int.toNat_natCast, dlt_true (hm _), d0_true, Bool.and_self, cond_true, mid_get, blt_true (hm _), Option.bind_some, mid_set, bnd_eq, a0, b0, f0, a1, b1, f1, a2, b2, f2, em, ew1, ew2, ew3, wrap_succ (hm (avSEdge (x.1, x.2.1, x.2.2))) (by simp; omega), ih, List.length_cons, mkSEdgeS, Option.some.injEq, Prod.mk.injEq, and_true]
    omega
theorem mrSEdgeS (xs : List SEdgeD) (k : Int) (hl : xs.length ≤ 1048576) (h1 : 0 ≤ k) (h2 : k ≤ 1000000000) : Fl_markSEdgeS k (xs.map avSEdge) = some (k + 3 * xs.length, (mkSEdgeS k xs.length).map avSEdge) := by
  refine ul_markSEdgeS _ _ ?_
  have e := mrSEdgeS_0 xs [] k (by simp; omega) h1 (by omega)
  simp only [List.nil_append, List.length_nil, Int.natCast_zero] at e
  simp [e]
noncomputable def mkSpot (k : Int) : SpotD := (k, (mt (k + 1)))
noncomputable def mkSpotS : Int → Nat → List SpotD
  | _, 0 => []
  | k, m + 1 => mkSpot k :: mkSpotS (k + 2) m
theorem mkSpotS_len : ∀ (k : Int) (m : Nat), (mkSpotS k m).length = m
  | _, 0 => rfl
  | k, m + 1 => by simp [mkSpotS, mkSpotS_len]
theorem mrSpotS_0 : ∀ (xs : List SpotD) (pre : List AVal) (k : Int), pre.length + xs.length ≤ 1048576 → 0 ≤ k → k + 2 * xs.length ≤ 90000000000 → Ll_markSpotS_0 k (pre.length : Int) (pre ++ xs.map avSpot) = some (k + 2 * xs.length, pre ++ (mkSpotS k xs.length).map avSpot)
  | [], pre, k, hl, h1, h2 => by
    refine ll_markSpotS_0 _ _ _ ?_
    simp [mkSpotS]
  | x :: xs, pre, k, hl, h1, h2 => by
    simp only [List.length_cons] at hl h2
    have ih := mrSpotS_0 xs (pre ++ [avSpot (mkSpot k)]) (k + 2) (by simp; omega) (by omega) (by omega)
    simp only [List.append_assoc, List.cons_append, List.nil_append, List.length_append, List.length_cons, List.length_nil, Nat.zero_add] at ih
    have ew1 : IntKind.wrap .i64 (k + 1) = k + 1 := by rw [wrap64 (by omega) (by omega)]
    have ew2 : IntKind.wrap .i64 (k + 1 + 1) = k + 2 := by rw [wrap64 (by omega) (by omega)]; omega
    have hm : ∀ y : AVal, pre.length < (pre ++ y :: xs.map avSpot).length := fun y => mid_len pre (xs.map avSpot) y
    have ez : avSpot x = avSpot (x.1, x.2) := rfl
    have em : avSpot (k, (mt (k + 1))) = avSpot (mkSpot k) := rfl
    have a0 : aggQ (avSpot (x.1, x.2)) = true := rfl
    have b0 : Nat.ble 1 (avSpot (x.1, x.2)).cells.length = true := rfl
    have f0 : AVal.agg (setMany (avSpot (x.1, x.2)).cells 0 [.int .i64 k]) = avSpot (k, x.2) := rfl
    have a1 : aggQ (avSpot (k, x.2)) = true := rfl
    have b1 : Nat.ble 2 (avSpot (k, x.2)).cells.length = true := rfl
    have f1 : AVal.agg (setMany (avSpot (k, x.2)).cells 1 [.str (mt (k + 1))]) = avSpot (k, (mt (k + 1))) := rfl
    refine ll_markSpotS_0 _ _ _ ?_
    simp only [List.map_cons, ez, Int.toNat_natCast, dlt_true (hm _), d0_true, Bool.and_self, cond_true, mid_get, blt_true (hm _), s122 (k + 1) (by omega), Option.bind_some, mid_set, bnd_eq, a0, b0, f0, a1, b1, f1, em, ew1, ew2, wrap_succ (hm (avSpot (x.1, x.2))) (by simp; omega), ih, List.length_cons, mkSpotS, Option.some.injEq, Prod.mk.injEq, and_true]
    omega
theorem mrSpotS (xs : List SpotD) (k : Int) (hl : xs.length ≤ 1048576) (h1 : 0 ≤ k) (h2 : k ≤ 1000000000) : Fl_markSpotS k (xs.map avSpot) = some (k + 2 * xs.length, (mkSpotS k xs.length).map avSpot) := by
  refine ul_markSpotS _ _ ?_
  have e := mrSpotS_0 xs [] k (by simp; omega) h1 (by omega)
  simp only [List.nil_append, List.length_nil, Int.natCast_zero] at e
  simp [e]
end Go.Proofs.Ytmbnloccmnclnaa
