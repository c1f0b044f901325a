/- Copies of trees; where the tree is not too large. -/
import Derived.Test.YtnbpmjfemeeecaaLf
namespace Go.Proofs.Ytnbpmjfemeeecaa
open Go.VK AVal
open Tr
/-! Copies -/
mutual
theorem s93 : ∀ t : Tr, sz t ≤ 1048576 → Fs_l01Copy t.name t.text t.leaf (avs t.kids) = some (t.name, t.text, t.leaf, avs t.kids)
  | .mk n t b ks, h => by
    simp only [sz] at h
    refine us_l01Copy _ _ _ _ ?_
    have e := s93_0 n t b ByteArray.empty ByteArray.empty false [] [] ks (by simp; omega) (by omega)
    simp only [List.nil_append, List.length_nil, Int.natCast_zero, avs] at e
    simp only [Tr.name, Tr.text, Tr.leaf, Tr.kids, e, Option.bind_some, asRoL_avs]
theorem s93_0 : ∀ (n t : ByteArray) (b : Bool) (y0 y1 : ByteArray) (y2 : Bool) (y3 : List AVal) (pre ks : List Tr), (pre ++ ks).length ≤ 1048576 → szs ks ≤ 1048576 →
    Ls_l01Copy_0 (pre.length : Int) n t b (avs (pre ++ ks)) y0 y1 y2 y3 (avs pre) = some (n, t, b, avs (pre ++ ks), y0, y1, y2, y3, avs (pre ++ ks))
  | n, t, b, y0, y1, y2, y3, pre, [], hl, hs => by
    refine ls_l01Copy_0 _ _ _ _ _ _ _ _ _ _ ?_
    simp [avs_len]
  | n, t, b, y0, y1, y2, y3, pre, k :: ks, hl, hs => by
    simp only [szs] at hs
    have hm := mid_lt pre ks k
    have hl2 : pre.length + (ks.length + 1) ≤ 1048576 := by simpa using hl
    have e := s93_0 n t b y0 y1 y2 y3 (pre ++ [k]) ks (by simpa using hl) (by omega)
    have ea : avs (pre ++ [k]) = avs pre ++ [av k] := by simp only [avs_map, List.map_append, List.map_cons, List.map_nil]
    have ek : AVal.agg [.str k.name, .str k.text, .bool k.leaf, .ro false 4 (avs k.kids)] = av k := by cases k; rfl
    have hc : capB ((avs pre).length + 1) 64 = true := capB_le (by rw [avs_len]; omega)
    simp only [List.append_assoc, List.cons_append, List.nil_append, List.length_append, List.length_cons, List.length_nil, Nat.zero_add, ea] at e
    refine ls_l01Copy_0 _ _ _ _ _ _ _ _ _ _ ?_
    simp only [Int.toNat_natCast, avs_get, av_shape, av_0, av_1, av_2, av_3, dlt_true hm, d0_true, Bool.and_self, wrap_succ hm (by omega), cond_true, s93 k (by omega), Option.bind_some, hc, ek, bnd_eq, e, avs_len (pre ++ k :: ks)]
end
mutual
theorem s96 : ∀ t : Tr, sz t ≤ 1048576 → Fi_copyTree t.name t.text t.leaf (avs t.kids) = some (t.name, t.text, t.leaf, ows t.kids)
  | .mk n t b ks, h => by
    simp only [sz] at h
    refine ui_copyTree _ _ _ _ ?_
    have e := s96_0 ByteArray.empty ByteArray.empty false [] n t b [] ks (by simp; omega) (by omega)
    simp only [List.nil_append, List.length_nil, Int.natCast_zero, ows] at e
    simp only [Tr.name, Tr.text, Tr.leaf, Tr.kids, avs_len, e, Option.bind_some]
theorem s96_0 : ∀ (y0 y1 : ByteArray) (y2 : Bool) (y3 : List AVal) (n t : ByteArray) (b : Bool) (pre ks : List Tr), (pre ++ ks).length ≤ 1048576 → szs ks ≤ 1048576 →
    Li_copyTree_0 (avs (pre ++ ks)) ((pre ++ ks).length : Int) (pre.length : Int) y0 y1 y2 y3 n t b (ows pre) = some (y0, y1, y2, y3, n, t, b, ows (pre ++ ks))
  | y0, y1, y2, y3, n, t, b, pre, [], hl, hs => by
    refine li_copyTree_0 _ _ _ _ _ _ _ _ _ _ _ ?_
    simp
  | y0, y1, y2, y3, n, t, b, pre, k :: ks, hl, hs => by
    simp only [szs] at hs
    have hm := mid_lt pre ks k
    have hl2 : pre.length + (ks.length + 1) ≤ 1048576 := by simpa using hl
    have e := s96_0 y0 y1 y2 y3 n t b (pre ++ [k]) ks (by simpa using hl) (by omega)
    have ea : ows (pre ++ [k]) = ows pre ++ [ow k] := by simp only [ows_map, List.map_append, List.map_cons, List.map_nil]
    have ek : AVal.agg [.str k.name, .str k.text, .bool k.leaf, .own 4 (ows k.kids)] = ow k := by cases k; rfl
    have hc : capB ((ows pre).length + 1) 64 = true := capB_le (by rw [ows_len]; omega)
    have el : ∀ x : Tr, (pre ++ [x]).length = pre.length + 1 := fun x => by simp
    simp only [List.append_assoc, List.cons_append, List.nil_append, el, ea] at e
    refine li_copyTree_0 _ _ _ _ _ _ _ _ _ _ _ ?_
    simp only [Int.toNat_natCast, avs_get, av_shape, av_0, av_1, av_2, av_3, dlt_true hm, d0_true, Bool.and_self, wrap_succ hm (by omega), cond_true, s96 k (by omega), Option.bind_some, hc, ek, bnd_eq, e, avs_len (pre ++ k :: ks)]
end
end Go.Proofs.Ytnbpmjfemeeecaa
