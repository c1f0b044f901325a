/- A graph of scopes: the helpers of the laws; where it is not too large. -/
import Derived.Test.YtfniojpjlachoaaSk
namespace Go.Proofs.Ytfniojpjlachoaa
open Go.VK AVal
/-! The helpers on what is given -/
def szSgN (es : List SEdgeD) (ds rs : List SpotD) : Nat := (es.length + totSEdge es) + ((ds.length + totSpot ds) + (rs.length + totSpot rs))
theorem tzSg (n : Int) (es : List SEdgeD) (ds rs : List SpotD) (h1 : es.length ≤ maxLen) (h2 : ds.length ≤ maxLen) (h3 : rs.length ≤ maxLen) (w1 : ∀ x ∈ es, wfSEdge x) (w2 : ∀ x ∈ ds, wfSpot x) (w3 : ∀ x ∈ rs, wfSpot x) :
    Fl_szSg n (es.map avSEdge) (ds.map avSpot) (rs.map avSpot) 1048576 = some (szR 1048576 (szSgN es ds rs)) := by
  refine ul_szSg _ _ _ _ _ ?_
  rw [tzSEdgeS es _ h1 w1 (by omega) (by omega)]
  simp only [Option.bind_some]
  unfold szSgN
  rw [← szR_add 1048576 (es.length + totSEdge es) _ (by omega)]
  by_cases g1 : szR 1048576 (es.length + totSEdge es) < 0
  · simp only [g1, decide_true, cond_true, if_true]
  obtain ⟨b1, b2⟩ := szR_le _ _ g1
  rw [tzSpotS ds _ h2 w2 b1 b2]
  simp only [g1, decide_false, cond_false, Option.bind_some, if_false]
  rw [← szR_add _ (ds.length + totSpot ds) _ b1]
  by_cases g2 : szR (szR 1048576 (es.length + totSEdge es)) (ds.length + totSpot ds) < 0
  · simp only [g2, decide_true, cond_true, if_true]
  obtain ⟨b3, b4⟩ := szR_le _ _ g2
  rw [tzSpotS rs _ h3 w3 b3 (by omega)]
  simp only [g2, decide_false, cond_false, Option.bind_some, if_false]
  by_cases g3 : szR (szR (szR 1048576 (es.length + totSEdge es)) (ds.length + totSpot ds)) (rs.length + totSpot rs) < 0
  · have : szR (szR (szR 1048576 (es.length + totSEdge es)) (ds.length + totSpot ds)) (rs.length + totSpot rs) = -1 := by unfold szR at g3 ⊢; split at g3 <;> split <;> omega
    rw [this]; rfl
  · simp only [g3, decide_false, cond_false]
theorem toSg (n : Int) (es : List SEdgeD) (ds rs : List SpotD) (h1 : es.length ≤ 1048576) (h2 : ds.length ≤ 1048576) (h3 : rs.length ≤ 1048576) : Fl_toSg n (es.map avSEdge) (ds.map avSpot) (rs.map avSpot) = some (n, es.map avSEdge, ds.map avSpot, rs.map avSpot) :=
  ul_toSg _ _ _ _ (by simp only [toSEdgeS es h1, toSpotS ds h2, toSpotS rs h3, Option.bind_some])
theorem eqSg (n : Int) (es : List SEdgeD) (ds rs : List SpotD) (h1 : es.length ≤ 1048576) (h2 : ds.length ≤ 1048576) (h3 : rs.length ≤ 1048576) : Fl_eqSg n (es.map avSEdge) (ds.map avSpot) (rs.map avSpot) n (es.map avSEdge) (ds.map avSpot) (rs.map avSpot) = some true :=
  ul_eqSg _ _ _ _ _ _ _ _ (by simp only [eqSEdgeS es h1, eqSpotS ds h2, eqSpotS rs h3, Option.bind_some, decide_true, Bool.not_true, cond_false])
theorem fitSg {y : AVal} (h : Fits ctx ty_laws_Sg y) : ∃ (n : Int) (es : List SEdgeD) (ds rs : List SpotD), y = .agg [.int .i64 n, .ro false 3 (es.map avSEdge), .ro false 2 (ds.map avSpot), .ro false 2 (rs.map avSpot)] ∧ (es.length ≤ maxLen ∧ ds.length ≤ maxLen ∧ rs.length ≤ maxLen) ∧ (∀ x ∈ es, wfSEdge x) ∧ (∀ x ∈ ds, wfSpot x) ∧ ∀ x ∈ rs, wfSpot x := by
  obtain ⟨fs, rfl, g⟩ := h.struct' (us := [ty_int, ty_S_laws_SEdge, ty_S_laws_Spot, ty_S_laws_Spot]) (by kernel_rfl)
  obtain ⟨v0, r, rfl, g0, g⟩ := g.cons'
  obtain ⟨v1, r, rfl, g1, g⟩ := g.cons'
  obtain ⟨v2, r, rfl, g2, g⟩ := g.cons'
  obtain ⟨v3, r, rfl, g3, g⟩ := g.cons'
  obtain rfl := g.nil'
  obtain ⟨n, rfl, _⟩ := g0.int' (k := .i64) (by kernel_rfl)
  obtain ⟨x1, rfl, l1, w1⟩ := g1.slice' (sz := 3) (e := ty_laws_SEdge) (by kernel_rfl)
  obtain ⟨x2, rfl, l2, w2⟩ := g2.slice' (sz := 2) (e := ty_laws_Spot) (by kernel_rfl)
  obtain ⟨x3, rfl, l3, w3⟩ := g3.slice' (sz := 2) (e := ty_laws_Spot) (by kernel_rfl)
  obtain ⟨es, rfl, q1⟩ := fitSEdgeS w1
  obtain ⟨ds, rfl, q2⟩ := fitSpotS w2
  obtain ⟨rs, rfl, q3⟩ := fitSpotS w3
  rw [List.length_map] at l1 l2 l3
  exact ⟨n, es, ds, rs, rfl, ⟨l1, l2, l3⟩, q1, q2, q3⟩
end Go.Proofs.Ytfniojpjlachoaa
