/- The law ScopesOf answers true at all plain arguments. -/
import Derived.Test.YtmbnloccmnclnaaSc
import Derived.Test.YtmbnloccmnclnaaBsh
import Derived.Test.YtmbnloccmnclnaaTn
import Derived.Test.YtmbnloccmnclnaaTk
import Derived.Test.YtmbnloccmnclnaaXe
import Derived.Test.YtmbnloccmnclnaaXn
namespace Go.Proofs.Ytmbnloccmnclnaa
open Go.VK AVal
open Tr
/-! Rows of rows of numbers -/
def totL : List (List Int) → Nat
  | [] => 0
  | x :: xs => x.length + totL xs
theorem totL_le {B : Nat} : ∀ {xs : List (List Int)}, (∀ x ∈ xs, x.length ≤ B) → totL xs ≤ xs.length * B
  | [], _ => Nat.zero_le _
  | x :: xs, h => by
    have h1 := h x (by simp)
    have h2 := totL_le (xs := xs) fun y hy => h y (by simp [hy])
    simp only [totL, List.length_cons, Nat.succ_mul]
    omega
theorem eqSS_0 (xs : List (List Int)) (hl : xs.length ≤ 1048576) (hx : ∀ x ∈ xs, x.length ≤ 1048576) : ∀ n i : Nat, i + n = xs.length → Ll_eqIntSS_0 (xs.map rowv) (xs.map rowv) (i : Int) = some (.inr ())
  | 0, i, h => by
    refine ll_eqIntSS_0 _ _ _ ?_
    simp [show ¬ i < xs.length by omega]
  | n + 1, i, h => by
    have hi : i < xs.length := by omega
    refine ll_eqIntSS_0 _ _ _ ?_
    simp only [List.length_map, Int.toNat_natCast, dlt_true hi, d0_true, Bool.and_self, cond_true, cond_false, getD_map rowv hi, e_row, e_elems, s24 xs[i] (hx _ (List.getElem_mem hi)), Option.bind_some, Bool.not_true, wrap_succ hi (by omega), eqSS_0 xs hl hx n (i + 1) (by omega)]
theorem eqSS (xs : List (List Int)) (hl : xs.length ≤ 1048576) (hx : ∀ x ∈ xs, x.length ≤ 1048576) : Fl_eqIntSS (xs.map rowv) (xs.map rowv) = some true := by
  refine ul_eqIntSS _ _ ?_
  have e := eqSS_0 xs hl hx xs.length 0 (by omega)
  simp only [Int.natCast_zero] at e
  simp [e]
def mkR : Int → List (List Int) → List AVal
  | _, [] => []
  | k, x :: xs => .own 1 (marks k x.length) :: mkR (k + x.length) xs
def mkV : Int → List (List Int) → List AVal
  | _, [] => []
  | k, x :: xs => .ro false 1 (marks k x.length) :: mkV (k + x.length) xs
theorem asRo_mkR : ∀ (xs : List (List Int)) (k : Int), asRoL (mkR k xs) = mkV k xs
  | [], k => by simp only [mkR, mkV, asRoL]
  | x :: xs, k => by simp only [mkR, mkV, asRoL, asRo, asRo_marks, asRo_mkR xs]
theorem mkV_len : ∀ (xs : List (List Int)) (k : Int), (mkV k xs).length = xs.length
  | [], k => rfl
  | x :: xs, k => by simp [mkV, mkV_len xs]
theorem mkSS_0 : ∀ (xs : List (List Int)) (pre : List AVal) (k : Int), pre.length + xs.length ≤ 1048576 → (∀ x ∈ xs, x.length ≤ 1048576) → 0 ≤ k → k + totL xs ≤ 1000000000 → Ll_markIntSS_0 k (pre.length : Int) (pre ++ xs.map rowo) = some (k + totL xs, pre ++ mkR k xs)
  | [], pre, k, hl, hx, h1, h2 => by
    refine ll_markIntSS_0 _ _ _ ?_
    simp [mkR, totL]
  | x :: xs, pre, k, hl, hx, h1, h2 => by
    have hm := fun y : AVal => mid_len pre (xs.map rowo) y
    simp only [List.length_cons, totL] at hl h2
    have hxl := hx x (by simp)
    have ih := mkSS_0 xs (pre ++ [.own 1 (marks k x.length)]) (k + x.length) (by simp; omega) (fun y hy => hx y (by simp [hy])) (by omega) (by omega)
    simp only [List.append_assoc, List.cons_append, List.nil_append, List.length_append, List.length_cons, List.length_nil, Nat.zero_add] at ih
    have a0 : CT.shape (.slice 1) (rowo x) = true := rfl
    have a1 : lend.isOwn (rowo x) = true := rfl
    have a2 : CT.shOwn (.slice 1) (rowo x) = true := rfl
    have a3 : (rowo x).elems = x.map iv := rfl
    have a4 : aggQ AVal.und = false := rfl
    refine ll_markIntSS_0 _ _ _ ?_
    simp only [List.map_cons, Int.toNat_natCast, dlt_true (hm _), d0_true, Bool.and_self, cond_true, mid_get, mid_set, blt_true (hm _), a0, a1, a2, a3, a4, Bool.not_false, s26 x k (by omega) h1 (by omega), Option.bind_some, wrap_succ (hm (rowo x)) (by simp; omega), ih, totL, mkR, Option.some.injEq, Prod.mk.injEq, and_true]
    omega
theorem mkSS (xs : List (List Int)) (k : Int) (hl : xs.length ≤ 1048576) (hx : ∀ x ∈ xs, x.length ≤ 1048576) (h1 : 0 ≤ k) (h2 : k + totL xs ≤ 1000000000) : Fl_markIntSS k (xs.map rowo) = some (k + totL xs, mkR k xs) := by
  refine ul_markIntSS _ _ ?_
  have e := mkSS_0 xs [] k (by simp; omega) hx h1 h2
  simp only [List.nil_append, List.length_nil, Int.natCast_zero] at e
  simp [e]
theorem hdSS_0 : ∀ (xs : List (List Int)) (pre : List AVal) (k : Int), pre.length + xs.length ≤ 1048576 → (∀ x ∈ xs, x.length ≤ 1048576) → 0 ≤ k → k + totL xs ≤ 1000000000 → Ll_heldIntSS_0 (pre ++ mkV k xs) k (pre.length : Int) = some (.inr (k + totL xs))
  | [], pre, k, hl, hx, h1, h2 => by
    refine ll_heldIntSS_0 _ _ _ ?_
    simp [mkV, totL]
  | x :: xs, pre, k, hl, hx, h1, h2 => by
    have hm := mid_len pre (mkV (k + x.length) xs) (.ro false 1 (marks k x.length))
    simp only [List.length_cons, totL] at hl h2
    have hxl := hx x (by simp)
    have ih := hdSS_0 xs (pre ++ [.ro false 1 (marks k x.length)]) (k + x.length) (by simp; omega) (fun y hy => hx y (by simp [hy])) (by omega) (by omega)
    simp only [List.append_assoc, List.cons_append, List.nil_append, List.length_append, List.length_cons, List.length_nil, Nat.zero_add] at ih
    have a0 : CT.shape (.slice 1) (.ro false 1 (marks k x.length)) = true := rfl
    have a3 : (AVal.ro false 1 (marks k x.length)).elems = marks k x.length := rfl
    have q : ¬ (k + (x.length : Int) < 0) := by omega
    rw [show mkV k (x :: xs) = .ro false 1 (marks k x.length) :: mkV (k + x.length) xs from rfl]
    refine ll_heldIntSS_0 _ _ _ ?_
    simp only [Int.toNat_natCast, dlt_true hm, d0_true, Bool.and_self, cond_true, cond_false, mid_get, a0, a3, s28 x.length k (by omega) h1 (by omega), Option.bind_some, q, decide_false, wrap_succ hm (by simp [mkV_len]; omega), ih, totL, Option.some.injEq, Sum.inr.injEq]
    omega
theorem hdSS (xs : List (List Int)) (k : Int) (hl : xs.length ≤ 1048576) (hx : ∀ x ∈ xs, x.length ≤ 1048576) (h1 : 0 ≤ k) (h2 : k + totL xs ≤ 1000000000) : Fl_heldIntSS (mkV k xs) k = some (k + totL xs) := by
  refine ul_heldIntSS _ _ ?_
  have e := hdSS_0 xs [] k (by simp; omega) hx h1 h2
  simp only [List.nil_append, List.length_nil, Int.natCast_zero] at e
  simp [e]
/-! Graphs of scopes -/
theorem eqG (n : Int) (es : List SEdgeD) (ds rs : List SpotD) (h1 : es.length ≤ 1048576) (h2 : ds.length ≤ 1048576) (h3 : rs.length ≤ 1048576) : Fl_eqSg n (es.map avSEdge) (ds.map avSpot) (rs.map avSpot) n (es.map avSEdge) (ds.map avSpot) (rs.map avSpot) = some true :=
  ul_eqSg _ _ _ _ _ _ _ _ (by simp only [eqSEdgeS es h1, eqSpotS ds h2, eqSpotS rs h3, Option.bind_some, decide_true, Bool.not_true, cond_false])
theorem mkG (n k : Int) (es : List SEdgeD) (ds rs : List SpotD) (h1 : es.length ≤ 1048576) (h2 : ds.length ≤ 1048576) (h3 : rs.length ≤ 1048576) (k0 : 0 ≤ k) (k1 : k ≤ 100000000) :
    Fl_markSg n k (es.map avSEdge) (ds.map avSpot) (rs.map avSpot) = some (k + 3 * es.length + 2 * ds.length + 2 * rs.length, (mkSEdgeS k es.length).map avSEdge, (mkSpotS (k + 3 * es.length) ds.length).map avSpot, (mkSpotS (k + 3 * es.length + 2 * ds.length) rs.length).map avSpot) :=
  ul_markSg _ _ _ _ _ (by
    rw [mrSEdgeS es k h1 k0 (by omega)]
    simp only [Option.bind_some]
    rw [mrSpotS ds _ h2 (by omega) (by omega)]
    simp only [Option.bind_some]
    rw [mrSpotS rs _ h3 (by omega) (by omega)]
    rfl)
theorem hdG (n k : Int) (a b c : Nat) (h1 : a ≤ 1048576) (h2 : b ≤ 1048576) (h3 : c ≤ 1048576) (k0 : 0 ≤ k) (k1 : k ≤ 100000000) :
    Fl_heldSg n ((mkSEdgeS k a).map avSEdge) ((mkSpotS (k + 3 * a) b).map avSpot) ((mkSpotS (k + 3 * a + 2 * b) c).map avSpot) k = some (k + 3 * a + 2 * b + 2 * c) := by
  refine ul_heldSg _ _ _ _ _ ?_
  have q1 : ¬ (k + 3 * (a : Int) < 0) := by omega
  have q2 : ¬ (k + 3 * (a : Int) + 2 * (b : Int) < 0) := by omega
  have q3 : ¬ (k + 3 * (a : Int) + 2 * (b : Int) + 2 * (c : Int) < 0) := by omega
  simp only [hdSEdgeS a k h1 k0 (by omega), Option.bind_some, q1, decide_false, cond_false, hdSpotS b (k + 3 * a) h2 (by omega) (by omega), q2, hdSpotS c (k + 3 * a + 2 * b) h3 (by omega) (by omega), q3]
/-! What both sides answer -/
def scZ : ScS := ⟨0, [], [], [], [], []⟩
def sc1 : ScS := ⟨1, [], [], [], [], []⟩
def scV (t : Tr) : ScS × Int := bif tmQ t then (bif sgQ (scT t [] 0 sc1).n (scT t [] 0 sc1).es (scT t [] 0 sc1).ds (scT t [] 0 sc1).rs then (scT t [] 0 sc1, 0) else (scZ, 3)) else (scZ, 1)
abbrev ScR := Int × List AVal × List AVal × List AVal × List AVal × List AVal × Int
def outR (f : List Int → AVal) (v : ScS × Int) : ScR := (v.1.n, v.1.es.map avSEdge, v.1.ds.map avSpot, v.1.rs.map avSpot, v.1.dp.map f, v.1.rp.map f, v.2)
theorem asRo_rowv (p : List Int) : asRo (rowv p) = rowv p := by simp only [rowv, asRo]
theorem sc_spec (t : Tr) (h : sz t ≤ 1048576) : Fs_ScopesOf t.name t.text t.leaf (avs t.kids) = some (outR rowv (scV t)) := by
  refine us_ScopesOf _ _ _ _ ?_
  simp only [tm_spec t h, Option.bind_some]
  unfold scV
  cases g : tmQ t with
  | false => rfl
  | true =>
    have hq : trmQ t = true := by simp only [tmQ, Bool.and_eq_true] at g; exact g.2
    have e := wk_spec t [] 0 sc1 1 hq ⟨by decide, by decide, by decide, by decide, by decide, by decide, by decide⟩ (by omega) (by simp only [List.length_nil]; omega)
    simp only [sc1, List.map_nil] at e
    simp only [Bool.not_true, cond_false, cond_true, e, Option.bind_some, outS, sc1, asRoL_map asRo_SEdge, asRoL_map asRo_Spot, asRoL_map asRo_rowv, sg_spec]
    cases sgQ (scT t [] 0 ⟨1, [], [], [], [], []⟩).n (scT t [] 0 ⟨1, [], [], [], [], []⟩).es (scT t [] 0 ⟨1, [], [], [], [], []⟩).ds (scT t [] 0 ⟨1, [], [], [], [], []⟩).rs <;> rfl
theorem sc_impl (t : Tr) (h : sz t ≤ 1048576) : Fi_ScopesOf t.name t.text t.leaf (avs t.kids) = some (outR rowo (scV t)) := by
  refine ui_ScopesOf _ _ _ _ ?_
  simp only [tm_impl t h, Option.bind_some]
  unfold scV
  cases g : tmQ t with
  | false => rfl
  | true =>
    have e := wk_impl t [] 0 sc1 1 ⟨by decide, by decide, by decide, by decide, by decide, by decide, by decide⟩ (by omega) (by simp only [List.length_nil]; omega)
    simp only [sc1, List.map_nil] at e
    simp only [Bool.not_true, cond_false, cond_true, e, Option.bind_some, outS, sc1, asRoL_map asRo_SEdge, asRoL_map asRo_Spot, sg_impl]
    cases sgQ (scT t [] 0 ⟨1, [], [], [], [], []⟩).n (scT t [] 0 ⟨1, [], [], [], [], []⟩).es (scT t [] 0 ⟨1, [], [], [], [], []⟩).ds (scT t [] 0 ⟨1, [], [], [], [], []⟩).rs <;> rfl
theorem scV_ok (t : Tr) (h : sz t ≤ 1048576) : (scV t).1.es.length ≤ 120 ∧ (scV t).1.ds.length ≤ 120 ∧ (scV t).1.rs.length ≤ 120 ∧ (scV t).1.dp.length ≤ 120 ∧ (scV t).1.rp.length ≤ 120 ∧ (∀ p ∈ (scV t).1.dp, p.length ≤ 1048576) ∧ ∀ p ∈ (scV t).1.rp, p.length ≤ 1048576 := by
  unfold scV
  cases tmQ t with
  | false => simp [scZ]
  | true =>
    have hp := scT_okP t [] 0 sc1 1048576 ⟨rfl, rfl, by simp [sc1], by simp [sc1]⟩ (by simp only [List.length_nil]; omega)
    simp only [cond_true]
    cases g : sgQ (scT t [] 0 sc1).n (scT t [] 0 sc1).es (scT t [] 0 sc1).ds (scT t [] 0 sc1).rs with
    | false => simp [scZ]
    | true =>
      simp only [sgQ, Bool.and_eq_true, decide_eq_true_eq] at g
      obtain ⟨_, g1, g2, g3, _⟩ := g
      obtain ⟨p1, p2, p3, p4⟩ := hp
      simp only [cond_true]
      exact ⟨g1, g2, g3, by omega, by omega, p3, p4⟩
theorem lawSc (t : Tr) (hw : wf t) : Fl_FnExactScopesOf t.name t.text t.leaf (avs t.kids) = some true := by
  refine ul_FnExactScopesOf _ _ _ _ ?_
  simp only [s29 t 1048576 hw (by omega) (by omega), Option.bind_some]
  by_cases g : szR 1048576 (sz t) < 0
  · simp only [g, decide_true, cond_true]
  have z := szR_nn g
  have hs : sz t ≤ 1048576 := by omega
  have hkc := kids_cnt t hs
  have es' := sc_spec t hs
  have ei' := sc_impl t hs
  obtain ⟨l1, l2, l3, l4, l5, p1, p2⟩ := scV_ok t hs
  generalize scV t = V at es' ei' l1 l2 l3 l4 l5 p1 p2
  obtain ⟨⟨vn, ve, vd, vr, dp, rp⟩, c⟩ := V
  simp only [outR] at es' ei'
  dsimp only at l1 l2 l3 l4 l5 p1 p2
  have t1 := totL_le p1
  have t2 := totL_le p2
  have t1' : totL dp ≤ 120 * 1048576 := Nat.le_trans t1 (Nat.mul_le_mul_right _ l4)
  have t2' : totL rp ≤ 120 * 1048576 := Nat.le_trans t2 (Nat.mul_le_mul_right _ l5)
  have em := mkG vn 1 ve vd vr (by omega) (by omega) (by omega) (by omega) (by omega)
  have eh := hdG vn 1 ve.length vd.length vr.length (by omega) (by omega) (by omega) (by omega) (by omega)
  have m1 := mkSS dp (1 + 3 * ve.length + 2 * vd.length + 2 * vr.length) (by omega) p1 (by omega) (by omega)
  have m2 := mkSS rp (1 + 3 * ve.length + 2 * vd.length + 2 * vr.length + totL dp) (by omega) p2 (by omega) (by omega)
  have n1 := hdSS dp (1 + 3 * ve.length + 2 * vd.length + 2 * vr.length) (by omega) p1 (by omega) (by omega)
  have n2 := hdSS rp (1 + 3 * ve.length + 2 * vd.length + 2 * vr.length + totL dp) (by omega) p2 (by omega) (by omega)
  have q0 : ¬ ((1 : Int) + 3 * (cnts t.kids : Int) < 0) := by omega
  have q1 : ¬ ((1 : Int) + 3 * (ve.length : Int) + 2 * (vd.length : Int) + 2 * (vr.length : Int) < 0) := by omega
  have q2 : ¬ ((1 : Int) + 3 * (ve.length : Int) + 2 * (vd.length : Int) + 2 * (vr.length : Int) + (totL dp : Int) < 0) := by omega
  have q3 : ¬ ((1 : Int) + 3 * (ve.length : Int) + 2 * (vd.length : Int) + 2 * (vr.length : Int) + (totL dp : Int) + (totL rp : Int) < 0) := by omega
  simp only [g, decide_false, cond_false, s31 t hs, Option.bind_some, asRoL_ows, es', ei', noRoL_map noRo_SEdge, noRoL_map noRo_Spot, noRoL_map noRo_rowo, Bool.and_self, cond_true, asRoL_map asRo_SEdge, asRoL_map asRo_Spot, asRoL_rowo, eqG vn ve vd vr (by omega) (by omega) (by omega), Bool.not_true, eqSS dp (by omega) p1, eqSS rp (by omega) p2, decide_true, s33 t hs, s52 t hs 1 (by omega) (by omega), q0, em, m1, m2, asRo_mkR, eh, n1, n2, q1, q2, q3]
theorem lawScopesOf : ∀ xs, FitsL ctx [ty_laws_Tree] xs → ∃ k, vcall ctx k n_l_FnExactScopesOf xs [] = some ([.bool true], []) := by
  intro xs h
  obtain ⟨t, rfl, hw⟩ := arg_tree h
  obtain ⟨n, t, l, ks⟩ := t
  exact law_of (S := sgl_FnExactScopesOf) (a := (n, t, l, avs ks)) (lawSc (.mk n t l ks) hw) rfl rfl
end Go.Proofs.Ytmbnloccmnclnaa
