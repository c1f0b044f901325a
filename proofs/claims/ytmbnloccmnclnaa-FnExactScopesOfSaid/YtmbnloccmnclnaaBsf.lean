/- Small structs as plain data, their comparison. -/
import Derived.Test.YtmbnloccmnclnaaTScopesOf
import Derived.Test.YtmbnloccmnclnaaUx
namespace Go.Proofs.Ytmbnloccmnclnaa
open Go.VK AVal
abbrev SEdgeD := Int × Int × Int
def avSEdge (x : SEdgeD) : AVal := .agg [.int .i64 x.1, .int .i64 x.2.1, .int .i64 x.2.2]
theorem asRo_SEdge (x : SEdgeD) : asRo (avSEdge x) = avSEdge x := by simp [avSEdge, asRo, asRoL]
theorem noRo_SEdge (x : SEdgeD) : noRo (avSEdge x) = true := by simp [avSEdge, noRo, noRoL]
theorem sh_SEdge (x : SEdgeD) : shapes [.int .i64, .int .i64, .int .i64] (((avSEdge x).cells.drop 0).take 3) = true := rfl
theorem c0_SEdge (x : SEdgeD) : ((avSEdge x).cell 0).toInt = x.1 := rfl
theorem p0_SEdge (x : SEdgeD) : CT.shape (.int .i64) ((avSEdge x).cell 0) = true := rfl
theorem c1_SEdge (x : SEdgeD) : ((avSEdge x).cell 1).toInt = x.2.1 := rfl
theorem p1_SEdge (x : SEdgeD) : CT.shape (.int .i64) ((avSEdge x).cell 1) = true := rfl
theorem c2_SEdge (x : SEdgeD) : ((avSEdge x).cell 2).toInt = x.2.2 := rfl
theorem p2_SEdge (x : SEdgeD) : CT.shape (.int .i64) ((avSEdge x).cell 2) = true := rfl
theorem eqSEdge (x0 : Int) (x1 : Int) (x2 : Int) : Fl_eqSEdge x0 x1 x2 x0 x1 x2 = some true := ul_eqSEdge _ _ _ _ _ _  (by simp)
theorem eqSEdgeS_0 (xs : List SEdgeD) (hl : xs.length ≤ 1048576) : ∀ n i : Nat, i + n = xs.length → Ll_eqSEdgeS_0 (xs.map avSEdge) (xs.map avSEdge) (i : Int) = some (.inr ())
  | 0, i, h => by
    refine ll_eqSEdgeS_0 _ _ _ ?_
    simp [show ¬ i < xs.length by omega]
  | n + 1, i, h => by
    have hi : i < xs.length := by omega
    refine ll_eqSEdgeS_0 _ _ _ ?_
    simp only [List.length_map, Int.toNat_natCast, dlt_true hi, d0_true, Bool.and_self, cond_true, cond_false, getD_map avSEdge hi, sh_SEdge, c0_SEdge, c1_SEdge, c2_SEdge, eqSEdge, Option.bind_some, Bool.not_true, wrap_succ hi (by omega), eqSEdgeS_0 xs hl n (i + 1) (by omega)]
theorem eqSEdgeS (xs : List SEdgeD) (hl : xs.length ≤ 1048576) : Fl_eqSEdgeS (xs.map avSEdge) (xs.map avSEdge) = some true := by
  refine ul_eqSEdgeS _ _ ?_
  have e := eqSEdgeS_0 xs hl xs.length 0 (by omega)
  simp only [Int.natCast_zero] at e
  simp [e]
abbrev SpotD := Int × ByteArray
def avSpot (x : SpotD) : AVal := .agg [.int .i64 x.1, .str x.2]
theorem asRo_Spot (x : SpotD) : asRo (avSpot x) = avSpot x := by simp [avSpot, asRo, asRoL]
theorem noRo_Spot (x : SpotD) : noRo (avSpot x) = true := by simp [avSpot, noRo, noRoL]
theorem sh_Spot (x : SpotD) : shapes [.int .i64, .str] (((avSpot x).cells.drop 0).take 2) = true := rfl
theorem c0_Spot (x : SpotD) : ((avSpot x).cell 0).toInt = x.1 := rfl
theorem p0_Spot (x : SpotD) : CT.shape (.int .i64) ((avSpot x).cell 0) = true := rfl
theorem c1_Spot (x : SpotD) : ((avSpot x).cell 1).toStr = x.2 := rfl
theorem p1_Spot (x : SpotD) : CT.shape (.str) ((avSpot x).cell 1) = true := rfl
theorem eqSpot (x0 : Int) (x1 : ByteArray) : Fl_eqSpot x0 x1 x0 x1 = some true := ul_eqSpot _ _ _ _  (by simp)
theorem eqSpotS_0 (xs : List SpotD) (hl : xs.length ≤ 1048576) : ∀ n i : Nat, i + n = xs.length → Ll_eqSpotS_0 (xs.map avSpot) (xs.map avSpot) (i : Int) = some (.inr ())
  | 0, i, h => by
    refine ll_eqSpotS_0 _ _ _ ?_
    simp [show ¬ i < xs.length by omega]
  | n + 1, i, h => by
    have hi : i < xs.length := by omega
    refine ll_eqSpotS_0 _ _ _ ?_
    simp only [List.length_map, Int.toNat_natCast, dlt_true hi, d0_true, Bool.and_self, cond_true, cond_false, getD_map avSpot hi, sh_Spot, c0_Spot, c1_Spot, eqSpot, Option.bind_some, Bool.not_true, wrap_succ hi (by omega), eqSpotS_0 xs hl n (i + 1) (by omega)]
theorem eqSpotS (xs : List SpotD) (hl : xs.length ≤ 1048576) : Fl_eqSpotS (xs.map avSpot) (xs.map avSpot) = some true := by
  refine ul_eqSpotS _ _ ?_
  have e := eqSpotS_0 xs hl xs.length 0 (by omega)
  simp only [Int.natCast_zero] at e
  simp [e]
end Go.Proofs.Ytmbnloccmnclnaa
