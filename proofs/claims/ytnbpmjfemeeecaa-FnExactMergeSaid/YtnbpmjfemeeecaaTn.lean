/- Marks on trees; where the tree is not too large. -/
import Derived.Test.YtnbpmjfemeeecaaLf
import Derived.Test.YtnbpmjfemeeecaaMt
namespace Go.Proofs.Ytnbpmjfemeeecaa
open Go.VK AVal
open Tr
mutual
noncomputable def mkT : Int → Tr → Tr
  | k, .mk _ _ _ ks => .mk (mt k) (mt (k + 1)) (decide (Int.tmod (k + 2) 3 = 0)) (mkTs (k + 3) ks)
noncomputable def mkTs : Int → List Tr → List Tr
  | _, [] => []
  | k, t :: ts => mkT k t :: mkTs (k + 3 * cnt t) ts
end
theorem mkTs_len : ∀ (ts : List Tr) (k : Int), (mkTs k ts).length = ts.length
  | [], k => by simp [mkTs]
  | t :: ts, k => by simp [mkTs, mkTs_len ts]
theorem ows_get (pre suf : List Tr) (k : Tr) : (ows (pre ++ k :: suf)).getD pre.length .und = ow k := by rw [ows_map]; simp
theorem ows_mid (pre suf : List Tr) (k : Tr) : ows (pre ++ k :: suf) = ows pre ++ ow k :: ows suf := by simp [ows_map]
theorem omid_get (pre : List Tr) (suf : List AVal) (x : AVal) : (ows pre ++ x :: suf).getD pre.length .und = x := by rw [← ows_len pre]; exact mid_get ..
theorem omid_set (pre : List Tr) (suf : List AVal) (x y : AVal) : (ows pre ++ x :: suf).set pre.length y = ows pre ++ y :: suf := by rw [← ows_len pre]; exact mid_set ..
theorem omid_lt (pre : List Tr) (suf : List AVal) (x : AVal) : pre.length < (ows pre ++ x :: suf).length := by rw [List.length_append, ows_len]; simp
mutual
theorem s97 : ∀ (ks : List Tr) (k : Int), ks.length + szs ks ≤ 1048576 → 0 ≤ k → k + 3 * cnts ks ≤ 10000000000 → Fl_markTreeS k (ows ks) = some (k + 3 * cnts ks, ows (mkTs k ks))
  | ks, k, hs, h0, h1 => by
    refine ul_markTreeS _ _ ?_
    have e := s97_0 [] ks k (by simp; omega) (by omega) h0 h1
    simp only [List.nil_append, List.length_nil, Int.natCast_zero] at e
    simp only [e, Option.bind_some]
theorem s97_0 : ∀ (pre ks : List Tr) (k : Int), (pre ++ ks).length ≤ 1048576 → szs ks ≤ 1048576 → 0 ≤ k → k + 3 * cnts ks ≤ 10000000000 → Ll_markTreeS_0 k (pre.length : Int) (ows (pre ++ ks)) = some (k + 3 * cnts ks, ows (pre ++ mkTs k ks))
  | pre, [], k, hl, hs, h0, h1 => by
    refine ll_markTreeS_0 _ _ _ ?_
    simp [ows_len, cnts, mkTs]
  | pre, .mk n t b qs :: ks, k, hl, hs, h0, h1 => by
    have hl2 : pre.length + (ks.length + 1) ≤ 1048576 := by simpa using hl
    simp only [szs, sz] at hs
    simp only [cnts, cnt, Int.natCast_add] at h1
    have hm := fun x => omid_lt pre (ows ks) x
    have ih1 := s97 qs (k + 3) (by omega) (by omega) (by omega)
    have ih2 := s97_0 (pre ++ [.mk (mt k) (mt (k + 1)) (decide (Int.tmod (k + 2) 3 = 0)) (mkTs (k + 3) qs)]) ks (k + 3 + 3 * cnts qs) (by simpa using hl) (by omega) (by omega) (by omega)
    have el : ∀ x : Tr, (pre ++ [x]).length = pre.length + 1 := fun x => by simp
    simp only [List.append_assoc, List.cons_append, List.nil_append, el, ows_mid pre] at ih2
    have ew1 : IntKind.wrap .i64 (k + 1) = k + 1 := wrap64 (by omega) (by omega)
    have ew2 : IntKind.wrap .i64 (k + 1 + 1) = k + 2 := by rw [wrap64 (by omega) (by omega)]; omega
    have ew3 : IntKind.wrap .i64 (k + 2 + 1) = k + 3 := by rw [wrap64 (by omega) (by omega)]; omega
    refine ll_markTreeS_0 _ _ _ ?_
    have a0 : aggQ (ow (.mk n t b qs)) = true := rfl
    have a1 : Nat.ble 1 (ow (.mk n t b qs)).cells.length = true := rfl
    have a2 : AVal.agg (setMany (ow (.mk n t b qs)).cells 0 [.str (mt k)]) = ow (.mk (mt k) t b qs) := rfl
    have b0 : aggQ (ow (.mk (mt k) t b qs)) = true := rfl
    have b1 : Nat.ble 2 (ow (.mk (mt k) t b qs)).cells.length = true := rfl
    have b2 : AVal.agg (setMany (ow (.mk (mt k) t b qs)).cells 1 [.str (mt (k + 1))]) = ow (.mk (mt k) (mt (k + 1)) b qs) := rfl
    have c0 : aggQ (ow (.mk (mt k) (mt (k + 1)) b qs)) = true := rfl
    have c1 : Nat.ble 3 (ow (.mk (mt k) (mt (k + 1)) b qs)).cells.length = true := rfl
    have c2 : AVal.agg (setMany (ow (.mk (mt k) (mt (k + 1)) b qs)).cells 2 [.bool (decide (Int.tmod (k + 2) 3 = 0))]) = ow (.mk (mt k) (mt (k + 1)) (decide (Int.tmod (k + 2) 3 = 0)) qs) := rfl
    have d0 : aggQ (ow (.mk (mt k) (mt (k + 1)) (decide (Int.tmod (k + 2) 3 = 0)) qs)) = true := rfl
    have d1 : (ow (.mk (mt k) (mt (k + 1)) (decide (Int.tmod (k + 2) 3 = 0)) qs)).okg [3] = true := rfl
    have d2 : (ow (.mk (mt k) (mt (k + 1)) (decide (Int.tmod (k + 2) 3 = 0)) qs)).okp [3] = true := rfl
    have d3 : (ow (.mk (mt k) (mt (k + 1)) (decide (Int.tmod (k + 2) 3 = 0)) qs)).get [3] = .own 4 (ows qs) := rfl
    have d4 : (ow (.mk (mt k) (mt (k + 1)) (decide (Int.tmod (k + 2) 3 = 0)) qs)).put [3] .und = .agg [.str (mt k), .str (mt (k + 1)), .bool (decide (Int.tmod (k + 2) 3 = 0)), .und] := rfl
    have d5 : CT.shape (.slice 4) (.own 4 (ows qs)) = true := rfl
    have d6 : CT.shOwn (.slice 4) (.own 4 (ows qs)) = true := rfl
    have d7 : lend.isOwn (.own 4 (ows qs)) = true := rfl
    have d8 : (AVal.own 4 (ows qs)).elems = ows qs := rfl
    have f1 : (AVal.agg [.str (mt k), .str (mt (k + 1)), .bool (decide (Int.tmod (k + 2) 3 = 0)), .und]).okp [3] = true := rfl
    have f2 : aggQ ((AVal.agg [.str (mt k), .str (mt (k + 1)), .bool (decide (Int.tmod (k + 2) 3 = 0)), .und]).get [3]) = false := rfl
    have f3 : (AVal.agg [.str (mt k), .str (mt (k + 1)), .bool (decide (Int.tmod (k + 2) 3 = 0)), .und]).put [3] (.own 4 (ows (mkTs (k + 3) qs))) = ow (.mk (mt k) (mt (k + 1)) (decide (Int.tmod (k + 2) 3 = 0)) (mkTs (k + 3) qs)) := rfl
    have hlen : ∀ x : AVal, (ows pre ++ x :: ows ks).length ≤ 9000000000000000000 := fun x => by simp [ows_len]; omega
    simp only [ows_mid pre, Int.toNat_natCast, dlt_true (hm _), d0_true, Bool.and_self, Bool.and_true, cond_true, s122 k (by omega), s122 (k + 1) (by omega), Option.bind_some, omid_get, omid_set, blt_true (hm _), a0, a1, a2, bnd_eq, ew1, b0, b1, b2, c0, c1, c2, ew2, d0, d1, d2, d3, d4, d5, d6, d7, d8, ew3, ih1, f1, f2, Bool.not_false, f3, wrap_succ (hm (ow (.mk n t b qs))) (hlen _), ih2, mkTs, mkT, cnts, cnt, Option.some.injEq, Prod.mk.injEq]
    refine ⟨by omega, ?_⟩
    rw [show k + 3 * ((1 + cnts qs : Nat) : Int) = k + 3 + 3 * (cnts qs : Int) by omega]
end
theorem s52 (t : Tr) (h : sz t ≤ 1048576) (k : Int) (h0 : 0 ≤ k) (h1 : k ≤ 1000000000) : Fl_markTree t.name t.text t.leaf k (ows t.kids) = some (k + 3 * cnts t.kids, ows (mkTs k t.kids)) := by
  cases t with
  | mk n x l ks =>
    simp only [sz] at h
    have := cnts_sz ks
    exact ul_markTree _ _ _ _ _ (by simp only [Tr.kids, s97 ks k (by omega) h0 (by omega), Option.bind_some])
theorem kids_cnt (t : Tr) (h : sz t ≤ 1048576) : cnts t.kids ≤ 1048576 := by
  cases t with | mk n x l ks => simp only [sz] at h; simp only [Tr.kids]; have := cnts_sz ks; omega
end Go.Proofs.Ytnbpmjfemeeecaa
