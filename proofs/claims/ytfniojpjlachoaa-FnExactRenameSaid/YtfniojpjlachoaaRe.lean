/- The law Resolve answers true at all plain arguments; no condition. -/
import Derived.Test.YtfniojpjlachoaaSz
import Derived.Test.YtfniojpjlachoaaBsm
import Derived.Test.YtfniojpjlachoaaRg
import Derived.Test.YtfniojpjlachoaaXe
import Derived.Test.YtfniojpjlachoaaXm
namespace Go.Proofs.Ytfniojpjlachoaa
open Go.VK AVal
theorem lvS_len (es : List Edg) (a : Int) (nm : ByteArray) (ds : List Spt) : ∀ m k x, lvS es a nm ds k m = .inl x → x.length ≤ ds.length
  | 0, k, x, h => by cases h
  | m + 1, k, x, h => by
    simp only [lvS] at h
    split at h
    · obtain rfl := Sum.inl.inj h; exact idx_len ..
    · split at h
      · obtain rfl := Sum.inl.inj h; exact idx_len ..
      · exact lvS_len es a nm ds m (k + 1) x h
theorem lvR_len (es : List Edg) (a : Int) (nm : ByteArray) (ds : List Spt) (n : Int) : (lvR es a nm ds n).length ≤ ds.length := by
  unfold lvR
  cases h : lvS es a nm ds 0 (n.toNat + 1) with
  | inl x => exact lvS_len es a nm ds _ _ x h
  | inr u => simp
def rsV (n : Int) (es : List SEdgeD) (ds rs : List SpotD) (ref : Int) : List Int × Int :=
  if sgQ n es ds rs = true then (if h : 0 ≤ ref ∧ ref.toNat < rs.length then (if lvR es rs[ref.toNat].1 rs[ref.toNat].2 ds n = [] then ([], 8) else (lvR es rs[ref.toNat].1 rs[ref.toNat].2 ds n, 0)) else ([], 4)) else ([], 1)
theorem sgQ_of {n : Int} {es : List SEdgeD} {ds rs : List SpotD} (h : sgQ n es ds rs = true) : (0 ≤ n ∧ n ≤ 60) ∧ edG n es ∧ spG n ds ∧ spG n rs ∧ es.length ≤ 120 ∧ ds.length ≤ 120 ∧ rs.length ≤ 120 := by
  simp only [sgQ, inQ, Bool.and_eq_true, decide_eq_true_eq] at h
  obtain ⟨h1, h2, h3, h4, h5, h6, h7⟩ := h
  exact ⟨by omega, edG_of h5, spG_of h6, spG_of h7, h2, h3, h4⟩
theorem rsV_len (n : Int) (es : List SEdgeD) (ds rs : List SpotD) (ref : Int) : (rsV n es ds rs ref).1.length ≤ 120 := by
  unfold rsV
  split
  · rename_i h
    obtain ⟨_, _, _, _, _, h6, _⟩ := sgQ_of h
    split
    · split
      · simp
      · exact Nat.le_trans (lvR_len ..) h6
    · simp
  · simp
theorem rs_spec (n : Int) (es : List SEdgeD) (ds rs : List SpotD) (ref : Int) : Fs_Resolve n (es.map avSEdge) (ds.map avSpot) (rs.map avSpot) ref = some ((rsV n es ds rs ref).1.map iv, (rsV n es ds rs ref).2) := by
  refine us_Resolve _ _ _ _ _ ?_
  unfold rsV
  by_cases g : sgQ n es ds rs = true
  · obtain ⟨⟨h0, h2⟩, he, hd, hr, l1, l2, l3⟩ := sgQ_of g
    have ew : IntKind.wrap .i64 ((rs.length : Int) - 1) = (rs.length : Int) - 1 := wrap64 (by omega) (by omega)
    by_cases g1 : 0 ≤ ref ∧ ref.toNat < rs.length
    · obtain ⟨k, rfl⟩ : ∃ k : Nat, ref = k := ⟨ref.toNat, by omega⟩
      simp only [Int.toNat_natCast] at g1
      have hq : inQ 0 ((rs.length : Int) - 1) (k : Int) = true := by simp only [inQ, Bool.and_eq_true, decide_eq_true_eq]; omega
      have hg := getD_map avSpot g1.2
      have e := lv_spec n h0 h2 es ds (rs.map avSpot) he hd l1 l2 rs[k].1 (hr _ (List.getElem_mem g1.2)) rs[k].2
      simp only [sg_spec, g, Option.bind_some, Bool.not_true, cond_false, List.length_map, ew, s61', hq, Int.toNat_natCast, dlt_true g1.2, d0_true, Bool.and_self, cond_true, hg, sh_Spot, c0_Spot, c1_Spot, e, if_true, g1.2, and_true, g1.1, dite_true]
      by_cases g2 : lvR es rs[k].1 rs[k].2 ds n = []
      · simp only [g2, List.length_nil, Int.natCast_zero, decide_true, Bool.and_self, cond_true, if_true, List.map_nil]
      · have : ¬ ((lvR es rs[k].1 rs[k].2 ds n).length : Int) = 0 := by
          intro q; exact g2 (List.length_eq_zero_iff.1 (by omega))
        simp only [g2, this, decide_true, decide_false, Bool.and_self, cond_true, cond_false, if_false]
    · have hq : inQ 0 ((rs.length : Int) - 1) ref = false := by simp only [inQ, Bool.and_eq_false_iff, decide_eq_false_iff_not]; omega
      simp only [sg_spec, g, Option.bind_some, Bool.not_true, cond_false, List.length_map, ew, s61', hq, Bool.not_false, cond_true, if_true, g1, dite_false, List.map_nil]
  · simp only [sg_spec, Bool.eq_false_iff.2 g, Option.bind_some, Bool.not_false, cond_true, Bool.false_eq_true, if_false, List.map_nil]
theorem rs_impl (n : Int) (es : List SEdgeD) (ds rs : List SpotD) (ref : Int) : Fi_Resolve n (es.map avSEdge) (ds.map avSpot) (rs.map avSpot) ref = some ((rsV n es ds rs ref).1.map iv, (rsV n es ds rs ref).2) := by
  refine ui_Resolve _ _ _ _ _ ?_
  unfold rsV
  by_cases g : sgQ n es ds rs = true
  · obtain ⟨⟨h0, h2⟩, he, hd, hr, l1, l2, l3⟩ := sgQ_of g
    by_cases g1 : 0 ≤ ref ∧ ref.toNat < rs.length
    · obtain ⟨k, rfl⟩ : ∃ k : Nat, ref = k := ⟨ref.toNat, by omega⟩
      simp only [Int.toNat_natCast] at g1
      have n1 : ¬ (k : Int) < 0 := by omega
      have n2 : ¬ (rs.length : Int) ≤ (k : Int) := by omega
      have e := rs_i n h0 h2 es ds rs he hd hr l1 l2 k g1.2
      simp only [sg_impl, g, Option.bind_some, Bool.not_true, cond_false, List.length_map, n1, n2, decide_false, e, if_true, Int.toNat_natCast, g1.2, and_true, g1.1, dite_true]
      by_cases g2 : lvR es rs[k].1 rs[k].2 ds n = []
      · simp only [g2, List.length_nil, Int.natCast_zero, decide_true, cond_true, if_true, List.map_nil]
      · have : ¬ ((lvR es rs[k].1 rs[k].2 ds n).length : Int) = 0 := by
          intro q; exact g2 (List.length_eq_zero_iff.1 (by omega))
        simp only [g2, this, decide_false, cond_false, if_false]
    · by_cases n1 : ref < 0
      · simp only [sg_impl, g, Option.bind_some, Bool.not_true, cond_false, n1, decide_true, cond_true, if_true, g1, dite_false, List.map_nil]
      · have n2 : (rs.length : Int) ≤ ref := by omega
        simp only [sg_impl, g, Option.bind_some, Bool.not_true, cond_false, List.length_map, n1, n2, decide_false, decide_true, cond_true, if_true, g1, dite_false, List.map_nil]
  · simp only [sg_impl, Bool.eq_false_iff.2 g, Option.bind_some, Bool.not_false, cond_true, Bool.false_eq_true, if_false, List.map_nil]
theorem mkSg (n k : Int) (es : List SEdgeD) (ds rs : List SpotD) (h1 : es.length ≤ 1048576) (h2 : ds.length ≤ 1048576) (h3 : rs.length ≤ 1048576) (k0 : 0 ≤ k) (k1 : k ≤ 100000000) :
    Fl_markSg n k (es.map avSEdge) (ds.map avSpot) (rs.map avSpot) = some (k + 3 * es.length + 2 * ds.length + 2 * rs.length, (mkSEdgeS k es.length).map avSEdge, (mkSpotS (k + 3 * es.length) ds.length).map avSpot, (mkSpotS (k + 3 * es.length + 2 * ds.length) rs.length).map avSpot) :=
  ul_markSg _ _ _ _ _ (by
    rw [mrSEdgeS es k h1 k0 (by omega)]
    simp only [Option.bind_some]
    rw [mrSpotS ds _ h2 (by omega) (by omega)]
    simp only [Option.bind_some]
    rw [mrSpotS rs _ h3 (by omega) (by omega)]
    rfl)
theorem lawRs (n : Int) (es : List SEdgeD) (ds rs : List SpotD) (ref : Int) (h1 : es.length ≤ maxLen) (h2 : ds.length ≤ maxLen) (h3 : rs.length ≤ maxLen) (w1 : ∀ x ∈ es, wfSEdge x) (w2 : ∀ x ∈ ds, wfSpot x) (w3 : ∀ x ∈ rs, wfSpot x) :
    Fl_FnExactResolve n (es.map avSEdge) (ds.map avSpot) (rs.map avSpot) ref = some true := by
  refine ul_FnExactResolve _ _ _ _ _ ?_
  simp only [tzSg n es ds rs h1 h2 h3 w1 w2 w3, Option.bind_some]
  by_cases g : szR 1048576 (szSgN es ds rs) < 0
  · simp only [g, decide_true, cond_true]
  have hs := szR_nn g
  unfold szSgN at hs
  have l1 : es.length ≤ 1048576 := by omega
  have l2 : ds.length ≤ 1048576 := by omega
  have l3 : rs.length ≤ 1048576 := by omega
  have lv := rsV_len n es ds rs ref
  generalize hV : (rsV n es ds rs ref).1 = V at lv
  have e24 := s24 V (by omega)
  have em := mkSg n 1 es ds rs l1 l2 l3 (by omega) (by omega)
  have q1 : ¬ ((1 : Int) + 3 * es.length + 2 * ds.length + 2 * rs.length < 0) := by omega
  have q2 : ¬ ((1 : Int) + V.length < 0) := by omega
  simp only [g, decide_false, cond_false, toSg n es ds rs l1 l2 l3, asRoL_map asRo_SEdge, asRoL_map asRo_Spot, asRoL_map asRo_iv, rs_spec, rs_impl, hV, noRoL_map noRo_iv, Bool.and_self, cond_true, e24, Option.bind_some, Bool.not_true, decide_true, eqSg n es ds rs l1 l2 l3, em, q1,
    s26 V 1 (by omega) (by omega) (by omega), asRo_marks, s28 V.length 1 (by omega) (by omega) (by omega), q2]
theorem lawResolve : ∀ xs, FitsL ctx [ty_laws_Sg, ty_int] xs → ∃ k, vcall ctx k n_l_FnExactResolve xs [] = some ([.bool true], []) := by
  intro xs h
  obtain ⟨x, r, rfl, h1, h⟩ := h.cons'
  obtain ⟨y, r, rfl, h2, h⟩ := h.cons'
  obtain rfl := h.nil'
  obtain ⟨n, es, ds, rs, rfl, ⟨l1, l2, l3⟩, q1, q2, q3⟩ := fitSg h1
  obtain ⟨ref, rfl, _⟩ := h2.int' (k := .i64) (by kernel_rfl)
  exact law_of (S := sgl_FnExactResolve) (a := (n, es.map avSEdge, ds.map avSpot, rs.map avSpot, ref)) (lawRs n es ds rs ref l1 l2 l3 q1 q2 q3) rfl rfl
end Go.Proofs.Ytfniojpjlachoaa
