/- A graph of scopes: what SgOK asks, in the reference and in the program; no condition. -/
import Derived.Test.YtmbnloccmnclnaaBsf
import Derived.Test.YtmbnloccmnclnaaNm
import Derived.Test.YtmbnloccmnclnaaXb
namespace Go.Proofs.Ytmbnloccmnclnaa
open Go.VK AVal
def edgeQ (n : Int) (e : SEdgeD) : Bool := inQ 0 (n - 1) e.1 && (inQ 0 (n - 1) e.2.1 && inQ 1 2 e.2.2)
def spotQ (n : Int) (s : SpotD) : Bool := inQ 0 (n - 1) s.1 && nmOK s.2
def sgQ (n : Int) (es : List SEdgeD) (ds rs : List SpotD) : Bool :=
  inQ 1 60 n && (decide (es.length ≤ 120) && (decide (ds.length ≤ 120) && (decide (rs.length ≤ 120) && (es.all (edgeQ n) && (ds.all (spotQ n) && rs.all (spotQ n))))))
theorem sg_s0 (n : Int) (h1 : 1 ≤ n) (h2 : n ≤ 60) (D R : List AVal) : ∀ (es pre : List SEdgeD), (pre ++ es).length ≤ 1048576 → Ls_SgOK_0 (pre.length : Int) n ((pre ++ es).map avSEdge) D R = some (if es.all (edgeQ n) then .inr () else .inl false)
  | [], pre, hl => by
    refine ls_SgOK_0 _ _ _ _ _ ?_
    simp
  | e :: es, pre, hl => by
    have hm := mid_len pre es e
    have ew : IntKind.wrap .i64 (n - 1) = n - 1 := wrap64 (by omega) (by omega)
    have ih := sg_s0 n h1 h2 D R es (pre ++ [e]) (by simpa using hl)
    simp only [List.append_assoc, List.cons_append, List.nil_append, show ∀ x : SEdgeD, (pre ++ [x]).length = pre.length + 1 from fun x => by simp] at ih
    refine ls_SgOK_0 _ _ _ _ _ ?_
    simp only [Int.toNat_natCast, List.length_map, dlt_true hm, d0_true, Bool.and_self, cond_true, map_mid, sh_SEdge, c0_SEdge, c1_SEdge, c2_SEdge, ew, s61', Option.bind_some, wrap_succ hm (by omega), ih, List.all_cons, edgeQ]
    by_cases g1 : inQ 0 (n - 1) e.1 = true
    · by_cases g2 : inQ 0 (n - 1) e.2.1 = true
      · by_cases g3 : inQ 1 2 e.2.2 = true
        · simp only [g1, g2, g3, Bool.not_true, cond_false, Bool.true_and]
        · simp [g1, g2, g3]
      · simp [g1, g2]
    · simp [g1]
theorem spots_0 (n : Int) (h1 : 1 ≤ n) (h2 : n ≤ 60) : ∀ (ss pre : List SpotD), (pre ++ ss).length ≤ 1048576 → Ls_l12Spots_0 ((pre ++ ss).map avSpot) n (pre.length : Int) = some (if ss.all (spotQ n) then .inr () else .inl false)
  | [], pre, hl => by
    refine ls_l12Spots_0 _ _ _ ?_
    simp
  | e :: ss, pre, hl => by
    have hm := mid_len pre ss e
    have ew : IntKind.wrap .i64 (n - 1) = n - 1 := wrap64 (by omega) (by omega)
    have ih := spots_0 n h1 h2 ss (pre ++ [e]) (by simpa using hl)
    simp only [List.append_assoc, List.cons_append, List.nil_append, show ∀ x : SpotD, (pre ++ [x]).length = pre.length + 1 from fun x => by simp] at ih
    refine ls_l12Spots_0 _ _ _ ?_
    simp only [Int.toNat_natCast, List.length_map, dlt_true hm, d0_true, Bool.and_self, cond_true, map_mid, p0_Spot, p1_Spot, c0_Spot, c1_Spot, ew, s61', s108, Option.bind_some, wrap_succ hm (by omega), ih, List.all_cons, spotQ]
    by_cases g1 : inQ 0 (n - 1) e.1 = true
    · by_cases g2 : nmOK e.2 = true
      · simp only [g1, g2, Bool.not_true, cond_false, Bool.true_and]
      · simp [g1, g2]
    · simp [g1]
theorem spots (n : Int) (h1 : 1 ≤ n) (h2 : n ≤ 60) (ss : List SpotD) : Fs_l12Spots (ss.map avSpot) n = some (decide (ss.length ≤ 120) && ss.all (spotQ n)) := by
  refine us_l12Spots _ _ ?_
  by_cases g : ss.length ≤ 120
  · have g' : ¬ (120 : Int) < ss.length := by omega
    have e := spots_0 n h1 h2 ss [] (by simp; omega)
    simp only [List.nil_append, List.length_nil, Int.natCast_zero] at e
    simp only [List.length_map, g', g, decide_false, decide_true, cond_false, e, Bool.true_and]
    by_cases q : ss.all (spotQ n) = true
    · simp only [q, if_true, Option.bind_some, Sum.elim_inr]
    · simp only [Bool.eq_false_iff.2 q, Bool.false_eq_true, if_false, Option.bind_some, Sum.elim_inl]
  · have g' : (120 : Int) < ss.length := by omega
    simp only [List.length_map, g', g, decide_true, decide_false, cond_true, Bool.false_and]
theorem sg_spec (n : Int) (es : List SEdgeD) (ds rs : List SpotD) : Fs_SgOK n (es.map avSEdge) (ds.map avSpot) (rs.map avSpot) = some (sgQ n es ds rs) := by
  refine us_SgOK _ _ _ _ ?_
  unfold sgQ
  by_cases g1 : inQ 1 60 n = true
  · have w : 1 ≤ n ∧ n ≤ 60 := by simp only [inQ, Bool.and_eq_true, decide_eq_true_eq] at g1; omega
    by_cases g2 : es.length ≤ 120
    · have g2' : ¬ (120 : Int) < es.length := by omega
      have e := sg_s0 n w.1 w.2 (ds.map avSpot) (rs.map avSpot) es [] (by simp; omega)
      simp only [List.nil_append, List.length_nil, Int.natCast_zero] at e
      simp only [s61', g1, g2, g2', List.length_map, spots n w.1 w.2, e, Option.bind_some, Bool.not_true, cond_false, decide_false, decide_true, Bool.true_and]
      by_cases a1 : ds.length ≤ 120
      · by_cases a2 : rs.length ≤ 120
        · by_cases q1 : ds.all (spotQ n) = true
          · by_cases q2 : rs.all (spotQ n) = true
            · by_cases q3 : es.all (edgeQ n) = true
              · simp only [a1, a2, q1, q2, q3, decide_true, Bool.and_self, Bool.not_true, cond_false, if_true, Option.bind_some, Sum.elim_inr]
              · simp only [a1, a2, q1, q2, Bool.eq_false_iff.2 q3, decide_true, Bool.and_self, Bool.not_true, cond_false, Bool.false_eq_true, if_false, Option.bind_some, Sum.elim_inl, Bool.false_and, Bool.and_false]
            · simp only [a1, a2, q1, Bool.eq_false_iff.2 q2, decide_true, Bool.and_self, Bool.not_true, Bool.not_false, cond_false, cond_true, Bool.and_false]
          · simp only [a1, Bool.eq_false_iff.2 q1, decide_true, Bool.not_false, cond_true, Bool.and_false, Bool.false_and]
        · simp only [a2, decide_false, Bool.false_and, Bool.not_false, cond_true, Bool.and_false]
          by_cases q1 : (decide (ds.length ≤ 120) && ds.all (spotQ n)) = true <;> simp [q1]
      · simp only [a1, decide_false, Bool.false_and, Bool.not_false, cond_true]
    · have g2' : (120 : Int) < es.length := by omega
      simp only [s61', g1, g2, g2', List.length_map, Option.bind_some, Bool.not_true, cond_false, cond_true, decide_true, decide_false, Bool.false_and, Bool.and_false]
  · simp only [s61', Bool.eq_false_iff.2 g1, Option.bind_some, Bool.not_false, cond_true, Bool.false_and]
theorem sg_in (s n : Int) (E D R : List AVal) : Fi_SgOK_1 s n E D R = some (inQ 0 (n - 1) s, n, E, D, R) := by
  refine ui_SgOK_1 _ _ _ _ _ ?_
  have e : decide (s < n) = decide (s ≤ n - 1) := by congr 1; apply propext; omega
  by_cases g : 0 ≤ s <;> simp [g, inQ, e]
theorem sg_i0 (n : Int) (D R : List AVal) : ∀ (es pre : List SEdgeD), (pre ++ es).length ≤ 1048576 → Li_SgOK_0 ((pre ++ es).map avSEdge) ((pre ++ es).length : Int) (pre.length : Int) n ((pre ++ es).map avSEdge) D R = some (if es.all (edgeQ n) then .inr (n, (pre ++ es).map avSEdge, D, R) else .inl false)
  | [], pre, hl => by
    refine li_SgOK_0 _ _ _ _ _ _ _ ?_
    simp
  | e :: es, pre, hl => by
    have hm := mid_len pre es e
    have ih := sg_i0 n D R es (pre ++ [e]) (by simpa using hl)
    simp only [List.append_assoc, List.cons_append, List.nil_append, show ∀ x : SEdgeD, (pre ++ [x]).length = pre.length + 1 from fun x => by simp] at ih
    refine li_SgOK_0 _ _ _ _ _ _ _ ?_
    simp only [Int.toNat_natCast, List.length_map, dlt_true hm, d0_true, Bool.and_self, cond_true, map_mid, sh_SEdge, c0_SEdge, c1_SEdge, c2_SEdge, sg_in, Option.bind_some, wrap_succ hm (by omega), ih, List.all_cons, edgeQ]
    by_cases g1 : inQ 0 (n - 1) e.1 = true
    · by_cases g2 : inQ 0 (n - 1) e.2.1 = true
      · by_cases g3 : e.2.2 = 1
        · have q : inQ 1 2 e.2.2 = true := by simp [inQ, g3]
          simp only [g1, g2, q, Bool.not_true, cond_false, Bool.true_and]
          simp only [g3, decide_true, Bool.not_true, cond_false]
        · by_cases g4 : e.2.2 = 2
          · have q : inQ 1 2 e.2.2 = true := by simp [inQ, g4]
            simp only [g1, g2, q, Bool.not_true, cond_false, Bool.true_and]
            simp only [g4, show ((2 : Int) = 1) = False from by simp, decide_false, decide_true, Bool.not_true, Bool.not_false, cond_true, cond_false]
          · have q : inQ 1 2 e.2.2 = false := by simp only [inQ, Bool.and_eq_false_iff, decide_eq_false_iff_not]; omega
            simp only [g1, g2, g3, g4, q, decide_false, Bool.not_true, Bool.not_false, cond_false, cond_true, Bool.and_false, Bool.false_and, Bool.false_eq_true, if_false]
      · simp only [g1, Bool.eq_false_iff.2 g2, Bool.not_true, Bool.not_false, cond_false, cond_true, Bool.and_false, Bool.false_and, Bool.false_eq_true, if_false]
    · simp only [Bool.eq_false_iff.2 g1, Bool.not_false, cond_true, Bool.false_and, Bool.false_eq_true, if_false]
theorem sg_i2 (n : Int) (E D R : List AVal) (L : List AVal) (j : Nat) (hj : j < L.length) (oi : Int) : ∀ (ss pre : List SpotD), (pre ++ ss).length ≤ 1048576 → L.getD j .und = .ro false 2 ((pre ++ ss).map avSpot) →
    Li_SgOK_2 2 oi (j : Int) ((pre ++ ss).length : Int) (pre.length : Int) n E D R L = some (if ss.all (spotQ n) then .inr (2, oi, n, E, D, R, L) else .inl false)
  | [], pre, hl, hL => by
    refine li_SgOK_2 _ _ _ _ _ _ _ _ _ _ ?_
    simp
  | e :: ss, pre, hl, hL => by
    have hm := mid_len pre ss e
    have ih := sg_i2 n E D R L j hj oi ss (pre ++ [e]) (by simpa using hl) (by simpa using hL)
    simp only [List.append_assoc, List.cons_append, List.nil_append, show ∀ x : SpotD, (pre ++ [x]).length = pre.length + 1 from fun x => by simp] at ih
    have a0 : CT.shape (.slice 2) (.ro false 2 ((pre ++ e :: ss).map avSpot)) = true := rfl
    have a1 : (AVal.ro false 2 ((pre ++ e :: ss).map avSpot)).elems = (pre ++ e :: ss).map avSpot := rfl
    have b0 : ((avSpot e).get []) = avSpot e := by cases h : avSpot e <;> simp only [AVal.get]
    have b1 : aggQ (avSpot e) = true := rfl
    have b2 : Nat.ble 2 (avSpot e).cells.length = true := rfl
    have b3 : (avSpot e).get [0] = .int .i64 e.1 := rfl
    have b4 : (avSpot e).get [1] = .str e.2 := rfl
    have b5 : CT.shape (.int .i64) (.int .i64 e.1) = true := rfl
    have b6 : CT.shape .str (.str e.2) = true := rfl
    have b7 : (avSpot e).okg [] = true := by cases h : avSpot e <;> simp only [AVal.okg]
    have b8 : (AVal.int .i64 e.1).toInt = e.1 := rfl
    have b9 : (AVal.str e.2).toStr = e.2 := rfl
    refine li_SgOK_2 _ _ _ _ _ _ _ _ _ _ ?_
    simp only [Int.toNat_natCast, blt_true hj, hL, a0, a1, List.length_map, dlt_true hm, d0_true, Bool.and_self, cond_true, okg_ro, get_ro, blt_true hm, map_mid, b0, b1, b2, b3, b4, b5, b6, b7, b8, b9, sg_in, s87, Option.bind_some, wrap_succ hm (by omega), ih, List.all_cons, spotQ]
    by_cases g1 : inQ 0 (n - 1) e.1 = true
    · by_cases g2 : nmOK e.2 = true
      · simp only [g1, g2, Bool.not_true, cond_false, Bool.true_and]
      · simp only [g1, Bool.eq_false_iff.2 g2, Bool.not_true, Bool.not_false, cond_false, cond_true, Bool.and_false, Bool.false_and, Bool.false_eq_true, if_false]
    · simp only [Bool.eq_false_iff.2 g1, Bool.not_false, cond_true, Bool.false_and, Bool.false_eq_true, if_false]
theorem sg_i1 (n : Int) (E : List AVal) (ds rs : List SpotD) (h1 : ds.length ≤ 120) (h2 : rs.length ≤ 120) : Li_SgOK_1 2 0 n E (ds.map avSpot) (rs.map avSpot) [.ro false 2 (ds.map avSpot), .ro false 2 (rs.map avSpot)] = some (if (ds.all (spotQ n) && rs.all (spotQ n)) then .inr () else .inl false) := by
  have e0 := sg_i2 n E (ds.map avSpot) (rs.map avSpot) [.ro false 2 (ds.map avSpot), .ro false 2 (rs.map avSpot)] 0 (by simp) 0 ds [] (by simp; omega) rfl
  have e1 := sg_i2 n E (ds.map avSpot) (rs.map avSpot) [.ro false 2 (ds.map avSpot), .ro false 2 (rs.map avSpot)] 1 (by simp) 1 rs [] (by simp; omega) rfl
  simp only [List.nil_append, List.length_nil, Int.natCast_zero, Int.natCast_one] at e0 e1
  have l2 : Li_SgOK_1 2 2 n E (ds.map avSpot) (rs.map avSpot) [.ro false 2 (ds.map avSpot), .ro false 2 (rs.map avSpot)] = some (.inr ()) := li_SgOK_1 _ _ _ _ _ _ _ (by simp)
  have l1 : Li_SgOK_1 2 1 n E (ds.map avSpot) (rs.map avSpot) [.ro false 2 (ds.map avSpot), .ro false 2 (rs.map avSpot)] = some (if rs.all (spotQ n) then .inr () else .inl false) := by
    refine li_SgOK_1 _ _ _ _ _ _ _ ?_
    have z : ∀ X : List AVal, CT.shape (.slice 2) (.ro false 2 X) = true := fun _ => rfl
    have z2 : ∀ X : List AVal, isSl (.ro false 2 X) = true := fun _ => rfl
    have z3 : ∀ X : List AVal, (AVal.ro false 2 X).elems = X := fun _ => rfl
    have z4 : IntKind.wrap .i64 2 = 2 := wrap64 (by omega) (by omega)
    have z5 : ([.ro false 2 (ds.map avSpot), .ro false 2 (rs.map avSpot)] : List AVal).getD 1 .und = .ro false 2 (rs.map avSpot) := rfl
    by_cases q : rs.all (spotQ n) = true
    · simp [z5, z, z2, z3, e1, q, z4, l2, show Nat.blt 1 2 = true from rfl]
    · simp only [Bool.eq_false_iff.2 q, Bool.false_eq_true, if_false] at e1 ⊢
      simp [z5, z, z2, z3, e1, show Nat.blt 1 2 = true from rfl]
  refine li_SgOK_1 _ _ _ _ _ _ _ ?_
  have z : ∀ X : List AVal, CT.shape (.slice 2) (.ro false 2 X) = true := fun _ => rfl
  have z2 : ∀ X : List AVal, isSl (.ro false 2 X) = true := fun _ => rfl
  have z3 : ∀ X : List AVal, (AVal.ro false 2 X).elems = X := fun _ => rfl
  have z4 : IntKind.wrap .i64 1 = 1 := wrap64 (by omega) (by omega)
  have z5 : ([.ro false 2 (ds.map avSpot), .ro false 2 (rs.map avSpot)] : List AVal).getD 0 .und = .ro false 2 (ds.map avSpot) := rfl
  by_cases q : ds.all (spotQ n) = true
  · simp only [q, if_true, Bool.true_and] at e0 ⊢
    simp [z5, z, z2, z3, e0, z4, l1, show Nat.blt 0 2 = true from rfl]
  · simp only [Bool.eq_false_iff.2 q, Bool.false_eq_true, if_false, Bool.false_and] at e0 ⊢
    simp [z5, z, z2, z3, e0, show Nat.blt 0 2 = true from rfl]
theorem sg_impl (n : Int) (es : List SEdgeD) (ds rs : List SpotD) : Fi_SgOK n (es.map avSEdge) (ds.map avSpot) (rs.map avSpot) = some (sgQ n es ds rs) := by
  refine ui_SgOK _ _ _ _ ?_
  unfold sgQ
  by_cases g1 : n < 1
  · have q : inQ 1 60 n = false := by simp only [inQ, Bool.and_eq_false_iff, decide_eq_false_iff_not]; omega
    simp only [g1, q, decide_true, cond_true, Bool.false_and]
  by_cases g1' : 60 < n
  · have q : inQ 1 60 n = false := by simp only [inQ, Bool.and_eq_false_iff, decide_eq_false_iff_not]; omega
    simp only [g1, g1', q, decide_true, decide_false, cond_true, cond_false, Bool.false_and]
  have q : inQ 1 60 n = true := by simp only [inQ, Bool.and_eq_true, decide_eq_true_eq]; omega
  by_cases g2 : es.length ≤ 120
  · have g2' : ¬ (120 : Int) < es.length := by omega
    by_cases g3 : ds.length ≤ 120
    · have g3' : ¬ (120 : Int) < ds.length := by omega
      by_cases g4 : rs.length ≤ 120
      · have g4' : ¬ (120 : Int) < rs.length := by omega
        have e := sg_i0 n (ds.map avSpot) (rs.map avSpot) es [] (by simp; omega)
        simp only [List.nil_append, List.length_nil, Int.natCast_zero] at e
        simp only [g1, g1', q, List.length_map, g2, g2', g3, g3', g4, g4', e, decide_true, decide_false, cond_false, Bool.true_and]
        by_cases a1 : es.all (edgeQ n) = true
        · simp only [a1, if_true, Option.bind_some, Sum.elim_inr, sg_i1 n _ ds rs g3 g4, Bool.true_and]
          by_cases a2 : (ds.all (spotQ n) && rs.all (spotQ n)) = true
          · simp only [a2, if_true, Option.bind_some, Sum.elim_inr]
          · simp only [Bool.eq_false_iff.2 a2, Bool.false_eq_true, if_false, Option.bind_some, Sum.elim_inl]
        · simp only [Bool.eq_false_iff.2 a1, Bool.false_eq_true, if_false, Option.bind_some, Sum.elim_inl, Bool.false_and]
      · have g4' : (120 : Int) < rs.length := by omega
        simp only [g1, g1', List.length_map, g2', g3', g4, g4', decide_true, decide_false, cond_true, cond_false, Bool.false_and, Bool.and_false]
    · have g3' : (120 : Int) < ds.length := by omega
      simp only [g1, g1', List.length_map, g2', g3, g3', decide_true, decide_false, cond_true, cond_false, Bool.false_and, Bool.and_false]
  · have g2' : (120 : Int) < es.length := by omega
    simp only [g1, g1', List.length_map, g2, g2', decide_true, decide_false, cond_true, cond_false, Bool.false_and, Bool.and_false]
end Go.Proofs.Ytmbnloccmnclnaa
