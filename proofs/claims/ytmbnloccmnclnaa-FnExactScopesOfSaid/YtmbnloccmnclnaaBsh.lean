/- Marks that are held by small structs; where a row is not too long. -/
import Derived.Test.YtmbnloccmnclnaaBsm
namespace Go.Proofs.Ytmbnloccmnclnaa
open Go.VK AVal
theorem hdSEdgeS_0 : ∀ (m : Nat) (pre : List AVal) (k : Int), pre.length + m ≤ 1048576 → 0 ≤ k → k + 3 * m ≤ 90000000000 → Ll_heldSEdgeS_0 (pre ++ (mkSEdgeS k m).map avSEdge) k (pre.length : Int) = some (.inr (k + 3 * m))
  | 0, pre, k, hl, h1, h2 => by
    refine ll_heldSEdgeS_0 _ _ _ ?_
    simp [mkSEdgeS]
  | m + 1, pre, k, hl, h1, h2 => by
    have ih := hdSEdgeS_0 m (pre ++ [avSEdge (mkSEdge k)]) (k + 3) (by simp; omega) (by omega) (by omega)
    simp only [List.append_assoc, List.cons_append, List.nil_append, List.length_append, List.length_cons, List.length_nil, Nat.zero_add] at ih
    have ew1 : IntKind.wrap .i64 (k + 1) = k + 1 := by rw [wrap64 (by omega) (by omega)]
    have ew2 : IntKind.wrap .i64 (k + 1 + 1) = k + 2 := by rw [wrap64 (by omega) (by omega)]; omega
    have ew3 : IntKind.wrap .i64 (k + 2 + 1) = k + 3 := by rw [wrap64 (by omega) (by omega)]; omega
    have hm := mid_len pre ((mkSEdgeS (k + 3) m).map avSEdge) (avSEdge (mkSEdge k))
    rw [show (mkSEdgeS k (m + 1)).map avSEdge = avSEdge (mkSEdge k) :: (mkSEdgeS (k + 3) m).map avSEdge from rfl]
    have m0 : (mkSEdge k).1 = k := rfl
    have m1 : (mkSEdge k).2.1 = (k + 1) := rfl
    have m2 : (mkSEdge k).2.2 = (k + 2) := rfl
    refine ll_heldSEdgeS_0 _ _ _ ?_
    simp only [Int.toNat_natCast, dlt_true hm, d0_true, Bool.and_self, cond_true, cond_false, mid_get, p0_SEdge, p1_SEdge, p2_SEdge, c0_SEdge, c1_SEdge, c2_SEdge, m0, m1, m2, Option.bind_some, beq_self_eq_true, decide_true, Bool.not_true, ew1, ew2, ew3, wrap_succ hm (by simp [mkSEdgeS_len]; omega), ih, Option.some.injEq, Sum.inr.injEq]
    omega
theorem hdSEdgeS (m : Nat) (k : Int) (hl : m ≤ 1048576) (h1 : 0 ≤ k) (h2 : k ≤ 1000000000) : Fl_heldSEdgeS ((mkSEdgeS k m).map avSEdge) k = some (k + 3 * m) := by
  refine ul_heldSEdgeS _ _ ?_
  have e := hdSEdgeS_0 m [] k (by simp; omega) h1 (by omega)
  simp only [List.nil_append, List.length_nil, Int.natCast_zero] at e
  simp [e]
theorem hdSpotS_0 : ∀ (m : Nat) (pre : List AVal) (k : Int), pre.length + m ≤ 1048576 → 0 ≤ k → k + 2 * m ≤ 90000000000 → Ll_heldSpotS_0 (pre ++ (mkSpotS k m).map avSpot) k (pre.length : Int) = some (.inr (k + 2 * m))
  | 0, pre, k, hl, h1, h2 => by
    refine ll_heldSpotS_0 _ _ _ ?_
    simp [mkSpotS]
  | m + 1, pre, k, hl, h1, h2 => by
    have ih := hdSpotS_0 m (pre ++ [avSpot (mkSpot k)]) (k + 2) (by simp; omega) (by omega) (by omega)
    simp only [List.append_assoc, List.cons_append, List.nil_append, List.length_append, List.length_cons, List.length_nil, Nat.zero_add] at ih
    have ew1 : IntKind.wrap .i64 (k + 1) = k + 1 := by rw [wrap64 (by omega) (by omega)]
    have ew2 : IntKind.wrap .i64 (k + 1 + 1) = k + 2 := by rw [wrap64 (by omega) (by omega)]; omega
    have hm := mid_len pre ((mkSpotS (k + 2) m).map avSpot) (avSpot (mkSpot k))
    rw [show (mkSpotS k (m + 1)).map avSpot = avSpot (mkSpot k) :: (mkSpotS (k + 2) m).map avSpot from rfl]
    have m0 : (mkSpot k).1 = k := rfl
    have m1 : (mkSpot k).2 = (mt (k + 1)) := rfl
    refine ll_heldSpotS_0 _ _ _ ?_
    simp only [Int.toNat_natCast, dlt_true hm, d0_true, Bool.and_self, cond_true, cond_false, mid_get, p0_Spot, p1_Spot, c0_Spot, c1_Spot, m0, m1, s122 (k + 1) (by omega), Option.bind_some, beq_self_eq_true, decide_true, Bool.not_true, ew1, ew2, wrap_succ hm (by simp [mkSpotS_len]; omega), ih, Option.some.injEq, Sum.inr.injEq]
    omega
theorem hdSpotS (m : Nat) (k : Int) (hl : m ≤ 1048576) (h1 : 0 ≤ k) (h2 : k ≤ 1000000000) : Fl_heldSpotS ((mkSpotS k m).map avSpot) k = some (k + 2 * m) := by
  refine ul_heldSpotS _ _ ?_
  have e := hdSpotS_0 m [] k (by simp; omega) h1 (by omega)
  simp only [List.nil_append, List.length_nil, Int.natCast_zero] at e
  simp [e]
end Go.Proofs.Ytmbnloccmnclnaa
