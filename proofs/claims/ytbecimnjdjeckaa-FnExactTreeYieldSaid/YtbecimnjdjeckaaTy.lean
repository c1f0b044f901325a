/- The law TreeYield answers true at all plain arguments; no condition. -/
import Derived.Test.YtbecimnjdjeckaaLf
namespace Go.Proofs.Ytbecimnjdjeckaa
open Go.VK AVal
open Tr
mutual
def yld : Tr → ByteArray
  | .mk _ t _ ks => ylds t ks
def ylds : ByteArray → List Tr → ByteArray
  | s, [] => s
  | s, k :: ks => ylds (s ++ yld k) ks
end
mutual
theorem yld_size : ∀ t : Tr, (yld t).size ≤ sz t
  | .mk n t b ks => by
    simp only [yld, sz]
    have := ylds_size t ks
    omega
theorem ylds_size : ∀ (s : ByteArray) (ks : List Tr), (ylds s ks).size ≤ s.size + szs ks
  | s, [] => by simp [ylds]
  | s, k :: ks => by
    simp only [ylds, szs]
    have h1 := ylds_size (s ++ yld k) ks
    have h2 := yld_size k
    rw [ByteArray.size_append] at h1
    omega
end
mutual
theorem y1 : ∀ t : Tr, sz t ≤ 1048576 → Fs_l01Yield t.name t.text t.leaf (avs t.kids) = some (yld t)
  | .mk n t b ks, hs => by
    simp only [sz] at hs
    refine us_l01Yield _ _ _ _ ?_
    have e := y1_0 n t b [] ks t (by simp; omega) (by omega)
    simp only [List.nil_append, List.length_nil, Int.natCast_zero] at e
    simp only [Tr.name, Tr.text, Tr.leaf, Tr.kids, e, Option.bind_some, yld]
theorem y1_0 : ∀ (n t : ByteArray) (b : Bool) (pre ks : List Tr) (c : ByteArray), (pre ++ ks).length ≤ 1048576 → c.size + szs ks ≤ 1048576 → Ls_l01Yield_0 c (pre.length : Int) n t b (avs (pre ++ ks)) = some (ylds c ks)
  | n, t, b, pre, [], c, hl, hs => by
    refine ls_l01Yield_0 _ _ _ _ _ _ ?_
    simp [avs_len, ylds]
  | n, t, b, pre, k :: ks, c, hl, hs => by
    simp only [szs] at hs
    have hm := mid_lt pre ks k
    have hy := yld_size k
    have e := y1_0 n t b (pre ++ [k]) ks (c ++ yld k) (by simpa using hl) (by rw [ByteArray.size_append]; omega)
    simp only [List.append_assoc, List.cons_append, List.nil_append, List.length_append, List.length_cons, List.length_nil, Nat.zero_add] at e
    have hf : fits64 (c.size + (yld k).size) = true := fits64_of (by omega)
    refine ls_l01Yield_0 _ _ _ _ _ _ ?_
    simp only [Int.toNat_natCast, avs_get, av_shape, av_0, av_1, av_2, av_3, avs_len, dlt_true hm, d0_true, Bool.and_self, wrap_succ hm (by omega), cond_true, y1 k (by omega), Option.bind_some, hf, e, ylds]
end
mutual
theorem y2 : ∀ t : Tr, sz t ≤ 1048576 → rgt t = true → Fi_yield t.name t.text t.leaf (avs t.kids) = some (yld t)
  | .mk n t b ks, hs, hr => by
    simp only [sz] at hs
    refine ui_yield _ _ _ _ ?_
    simp only [rgt, Bool.and_eq_true] at hr
    obtain ⟨_, h2, h3⟩ := hr
    simp only [Tr.name, Tr.text, Tr.leaf, Tr.kids]
    cases b with
    | true =>
      have hk : ks = [] := by simpa using (by simpa using h2 : ks = [] ∧ t.size ≤ 200).1
      subst hk
      simp [yld, ylds]
    | false =>
      have ht : t = ByteArray.mk #[] := by simpa using h2
      subst ht
      have e := y2_0 [] ks (ByteArray.mk #[]) (by simp; omega) (by simp [ByteArray.size]; omega) h3
      simp only [List.nil_append, List.length_nil, Int.natCast_zero] at e
      have e' : Li_yield_0 (avs ks) (ks.length : Int) 0 (bldMk bT bE ByteArray.empty) = _ := e
      simp only [cond_false, avs_len, e', Option.bind_some, ustrings_Builder_String _ (bldQ_mk _ _ _), bldS_mk, yld]
theorem y2_0 : ∀ (pre ks : List Tr) (c : ByteArray), (pre ++ ks).length ≤ 1048576 → c.size + szs ks ≤ 1048576 → rgts ks = true → Li_yield_0 (avs (pre ++ ks)) ((pre ++ ks).length : Int) (pre.length : Int) (bldMk bT bE c) = some (bldMk bT bE (ylds c ks))
  | pre, [], c, hl, hs, hr => by
    refine li_yield_0 _ _ _ _ ?_
    simp [ylds]
  | pre, k :: ks, c, hl, hs, hr => by
    simp only [szs] at hs
    simp only [rgts, Bool.and_eq_true] at hr
    have hm := mid_lt pre ks k
    have hy := yld_size k
    have e := y2_0 (pre ++ [k]) ks (c ++ yld k) (by simpa using hl) (by rw [ByteArray.size_append]; omega) hr.2
    simp only [List.append_assoc, List.cons_append, List.nil_append] at e
    rw [show (pre ++ [k]).length = pre.length + 1 by simp] at e
    have hw : (bldQ bT bE (bldMk bT bE c) && Nat.ble ((bldS (bldMk bT bE c)).size + (yld k).size) 140737488355328) = true := by
      rw [bldQ_mk, bldS_mk, Bool.true_and]; exact Nat.ble_eq_true_of_le (by omega)
    refine li_yield_0 _ _ _ _ ?_
    simp only [Int.toNat_natCast, avs_get, av_shape, av_0, av_1, av_2, av_3, avs_len, dlt_true hm, d0_true, Bool.and_self, wrap_succ hm (by omega), cond_true, y2 k (by omega) hr.1, Option.bind_some, ustrings_Builder_WriteString _ _ hw, bldS_mk, e, ylds]
end
theorem y3 (t : Tr) (h : sz t ≤ 1048576) : Fs_TreeYield t.name t.text t.leaf (avs t.kids) = some (if tokB2 t then (yld t, 0) else (ByteArray.empty, 1)) := by
  refine us_TreeYield _ _ _ _ ?_
  simp only [s30 t h, y1 t h, Option.bind_some]
  by_cases g : tokB2 t = true <;> simp [g] <;> rfl
theorem y4 (t : Tr) (h : sz t ≤ 1048576) : Fi_TreeYield t.name t.text t.leaf (avs t.kids) = some (if tokB2 t then (yld t, 0) else (ByteArray.empty, 1)) := by
  refine ui_TreeYield _ _ _ _ ?_
  simp only [s32 t h, Option.bind_some]
  by_cases g : tokB2 t = true
  · simp [g, y2 t h (by simp only [tokB2, Bool.and_eq_true] at g; exact g.2.2)]
  · simp [g]; rfl
theorem lawY (t : Tr) (hw : wf t) : Fl_FnExactTreeYield t.name t.text t.leaf (avs t.kids) = some true := by
  refine ul_FnExactTreeYield _ _ _ _ ?_
  simp only [s29 t 1048576 hw (by omega) (by omega), Option.bind_some]
  by_cases g : szR 1048576 (sz t) < 0
  · simp [g]
  · have hs : sz t ≤ 1048576 := by have := szR_nn g; omega
    simp [g, s31 t hs, asRoL_ows, y3 t hs, y4 t hs, s33 t hs]
theorem lawTreeYield : ∀ xs, FitsL ctx [ty_laws_Tree] xs → ∃ k, vcall ctx k n_l_FnExactTreeYield xs [] = some ([.bool true], []) := by
  intro xs h
  obtain ⟨t, rfl, hw⟩ := arg_tree h
  obtain ⟨n, x, l, ks⟩ := t
  exact law_of (S := sgl_FnExactTreeYield) (a := (n, x, l, avs ks)) (lawY (.mk n x l ks) hw) (by simp only [av]; rfl) rfl
end Go.Proofs.Ytbecimnjdjeckaa
