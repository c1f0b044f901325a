/- What is known of resolved references, and marks on a graph of scopes; no condition. -/
import Derived.Test.YtfniojpjlachoaaSz
import Derived.Test.YtfniojpjlachoaaBsm
import Derived.Test.YtfniojpjlachoaaRg
namespace Go.Proofs.Ytfniojpjlachoaa
open Go.VK AVal
theorem lvS_len (es : List Edg) (a : Int) (nm : ByteArray) (ds : List Spt) : ∀ m k x, lvS es a nm ds k m = .inl x → x.length ≤ ds.length
  | 0, k, x, h => by cases h
  | m + 1, k, x, h => by
    simp only [lvS] at h
    split at h
    · obtain rfl := Sum.inl.inj h; exact idx_len ..
    · split at h
      · obtain rfl := Sum.inl.inj h; exact idx_len ..
      · exact lvS_len es a nm ds m (k + 1) x h
theorem lvR_len (es : List Edg) (a : Int) (nm : ByteArray) (ds : List Spt) (n : Int) : (lvR es a nm ds n).length ≤ ds.length := by
  unfold lvR
  cases h : lvS es a nm ds 0 (n.toNat + 1) with
  | inl x => exact lvS_len es a nm ds _ _ x h
  | inr u => simp
theorem sgQ_of {n : Int} {es : List SEdgeD} {ds rs : List SpotD} (h : sgQ n es ds rs = true) : (0 ≤ n ∧ n ≤ 60) ∧ edG n es ∧ spG n ds ∧ spG n rs ∧ es.length ≤ 120 ∧ ds.length ≤ 120 ∧ rs.length ≤ 120 := by
  simp only [sgQ, inQ, Bool.and_eq_true, decide_eq_true_eq] at h
  obtain ⟨h1, h2, h3, h4, h5, h6, h7⟩ := h
  exact ⟨by omega, edG_of h5, spG_of h6, spG_of h7, h2, h3, h4⟩
theorem mkSg (n k : Int) (es : List SEdgeD) (ds rs : List SpotD) (h1 : es.length ≤ 1048576) (h2 : ds.length ≤ 1048576) (h3 : rs.length ≤ 1048576) (k0 : 0 ≤ k) (k1 : k ≤ 100000000) :
    Fl_markSg n k (es.map avSEdge) (ds.map avSpot) (rs.map avSpot) = some (k + 3 * es.length + 2 * ds.length + 2 * rs.length, (mkSEdgeS k es.length).map avSEdge, (mkSpotS (k + 3 * es.length) ds.length).map avSpot, (mkSpotS (k + 3 * es.length + 2 * ds.length) rs.length).map avSpot) :=
  ul_markSg _ _ _ _ _ (by
    rw [mrSEdgeS es k h1 k0 (by omega)]
    simp only [Option.bind_some]
    rw [mrSpotS ds _ h2 (by omega) (by omega)]
    simp only [Option.bind_some]
    rw [mrSpotS rs _ h3 (by omega) (by omega)]
    rfl)
end Go.Proofs.Ytfniojpjlachoaa
