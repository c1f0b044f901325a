/- What the functions on trees give: copies, equality with itself, names, counts, depths, measures; where the tree is not too large. -/
import Derived.Test.YtnbpmjfemeeecaaTr
import Derived.Test.YtnbpmjfemeeecaaNm
namespace Go.Proofs.Ytnbpmjfemeeecaa
open Go.VK AVal Tr
def zTr : AVal := .agg [.str ByteArray.empty, .str ByteArray.empty, .bool false, .own 4 []]
theorem fill_get (pre : List Tr) (z : AVal) (n : Nat) : (ows pre ++ List.replicate (n + 1) z).getD pre.length .und = z := by
  rw [List.getD_eq_getElem?_getD, List.getElem?_append_right (by simp [ows_len]), ows_len, Nat.sub_self]; rfl
theorem fill_set (pre : List Tr) (k : Tr) (z : AVal) (n : Nat) : (ows pre ++ List.replicate (n + 1) z).set pre.length (ow k) = ows (pre ++ [k]) ++ List.replicate n z := by
  rw [List.set_append_right _ _ (by simp [ows_len]), ows_len, Nat.sub_self, List.replicate_succ]
  simp [ows_map]
theorem fill_len (pre : List Tr) (z : AVal) (n : Nat) : (ows pre ++ List.replicate n z).length = pre.length + n := by simp [ows_len]
mutual
theorem s31 : ∀ t : Tr, sz t ≤ 1048576 → Fl_toTree t.name t.text t.leaf (avs t.kids) = some (t.name, t.text, t.leaf, ows t.kids)
  | mk n t b ks, h => by
    simp only [sz] at h
    refine ul_toTree _ _ _ _ ?_
    simp only [Tr.name, Tr.text, Tr.leaf, Tr.kids, s67 ks (by omega), Option.bind_some]
theorem s67 : ∀ ks : List Tr, ks.length + szs ks ≤ 1048576 → Fl_toTreeS (avs ks) = some (ows ks)
  | ks, h => by
    refine ul_toTreeS _ ?_
    have := s67_0 [] ks (by simp; omega) (by omega)
    simp only [List.nil_append, List.length_nil, Int.natCast_zero] at this
    have hc : capB ks.length 64 = true := capB_le (by omega)
    have h0 : (0 : Int) ≤ (ks.length : Int) := by omega
    have e0 : ows [] ++ List.replicate ks.length zTr = List.replicate ks.length (.agg [.str ByteArray.empty, .str ByteArray.empty, .bool false, .own 4 []]) := by simp [ows, zTr]
    rw [e0] at this
    simp only [avs_len, Int.toNat_natCast, h0, hc, Int.le_refl, decide_true, Bool.and_self, cond_true, bnd_eq, this, Option.bind_some]
theorem s67_0 : ∀ (pre ks : List Tr), (pre ++ ks).length ≤ 1048576 → szs ks ≤ 1048576 → Ll_toTreeS_0 (avs (pre ++ ks)) (pre.length : Int) (ows pre ++ List.replicate ks.length zTr) = some (ows (pre ++ ks))
  | pre, [], hl, h => by
    refine ll_toTreeS_0 _ _ _ ?_
    simp [avs_len]
  | pre, k :: ks, hl, h => by
    simp only [szs] at h
    have hm := mid_lt pre ks k
    have ih := s67_0 (pre ++ [k]) ks (by simpa using hl) (by omega)
    simp only [List.append_assoc, List.cons_append, List.nil_append, List.length_append, List.length_cons, List.length_nil, Nat.zero_add] at ih
    refine ll_toTreeS_0 _ _ _ ?_
    have hb : Nat.blt pre.length (pre.length + (ks.length + 1)) = true := by simp
    have e : (AVal.agg (setMany zTr.cells 0 [.str k.name, .str k.text, .bool k.leaf, .own 4 (ows k.kids)])) = ow k := by cases k; rfl
    have g1 : aggQ zTr = true := rfl
    have g2 : Nat.ble 4 zTr.cells.length = true := rfl
    have hd : decide ((pre.length : Int) < ((pre.length + (ks.length + 1) : Nat) : Int)) = true := by simp; omega
    simp only [Int.toNat_natCast, avs_get, av_shape, av_0, av_1, av_2, av_3, avs_len, dlt_true hm, d0_true, Bool.and_self, s31 k (by omega), wrap_succ hm (by omega), cond_true, Option.bind_some, List.length_cons, fill_get, fill_len, hb, hd, e, fill_set, g1, g2, bnd_eq, ih]
end
mutual
theorem s33 : ∀ t : Tr, sz t ≤ 1048576 → Fl_eqTree t.name t.text t.leaf (avs t.kids) t.name t.text t.leaf (avs t.kids) = some true
  | mk n t b ks, h => by
    simp only [sz] at h
    refine ul_eqTree _ _ _ _ _ _ _ _ ?_
    simp [Tr.kids, s69 ks (by omega)]
theorem s69 : ∀ ks : List Tr, ks.length + szs ks ≤ 1048576 → Fl_eqTreeS (avs ks) (avs ks) = some true
  | ks, h => by
    refine ul_eqTreeS _ _ ?_
    have := s69_0 [] ks (by simp; omega) (by omega)
    simp only [List.nil_append, List.length_nil, Int.natCast_zero] at this
    simp [this]
theorem s69_0 : ∀ (pre ks : List Tr), (pre ++ ks).length ≤ 1048576 → szs ks ≤ 1048576 → Ll_eqTreeS_0 (avs (pre ++ ks)) (avs (pre ++ ks)) (pre.length : Int) = some (.inr ())
  | pre, [], hl, h => by
    refine ll_eqTreeS_0 _ _ _ ?_
    simp [avs_len]
  | pre, k :: ks, hl, h => by
    simp only [szs] at h
    have hm := mid_lt pre ks k
    have ih := s69_0 (pre ++ [k]) ks (by simpa using hl) (by omega)
    simp only [List.append_assoc, List.cons_append, List.nil_append, List.length_append, List.length_cons, List.length_nil, Nat.zero_add] at ih
    refine ll_eqTreeS_0 _ _ _ ?_
    simp only [Int.toNat_natCast, avs_get, av_shape, av_0, av_1, av_2, av_3, avs_len, dlt_true hm, d0_true, Bool.and_self, s33 k (by omega), wrap_succ hm (by omega), cond_true, cond_false, Bool.not_true, Option.bind_some, ih]
end
end Go.Proofs.Ytnbpmjfemeeecaa
