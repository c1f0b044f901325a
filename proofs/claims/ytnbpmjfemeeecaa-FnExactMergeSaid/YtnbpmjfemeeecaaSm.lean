/- Are two trees the same? Both sides; where the trees are not too large. -/
import Derived.Test.YtnbpmjfemeeecaaTr
namespace Go.Proofs.Ytnbpmjfemeeecaa
open Go.VK AVal
open Tr
mutual
def sameT : Tr → Tr → Bool
  | .mk n t l ks, .mk n' t' l' ks' => decide (n = n') && (decide (t = t') && ((l == l') && (decide (ks.length = ks'.length) && sameTs ks ks')))
def sameTs : List Tr → List Tr → Bool
  | [], _ => true
  | _ :: _, [] => true
  | k :: ks, q :: qs => sameT k q && sameTs ks qs
end
def sameL (xs ys : List Tr) : Bool := decide (xs.length = ys.length) && sameTs xs ys
theorem avs_get2 (pre pre' suf : List Tr) (k : Tr) (h : pre.length = pre'.length) : (avs (pre' ++ k :: suf)).getD pre.length .und = av k := by rw [h]; exact avs_get pre' suf k
mutual
theorem same_s : ∀ (a b : Tr), sz a ≤ 1048576 → sz b ≤ 1048576 → Fs_l01Same a.name a.text a.leaf (avs a.kids) b.name b.text b.leaf (avs b.kids) = some (sameT a b)
  | .mk n t l ks, .mk n' t' l' ks', h, h' => by
    simp only [sz] at h h'
    refine us_l01Same _ _ _ _ _ _ _ _ ?_
    simp only [Tr.name, Tr.text, Tr.leaf, Tr.kids, sameT, avs_len]
    by_cases g1 : n = n'
    · by_cases g2 : t = t'
      · by_cases g3 : l = l'
        · by_cases g4 : ks.length = ks'.length
          · have e := same_s0 n t l n' t' l' [] [] ks ks' rfl g4 (by simp; omega) (by omega) (by omega)
            simp only [List.nil_append, List.length_nil, Int.natCast_zero] at e
            have g4' : ((ks.length : Int) = (ks'.length : Int)) := by omega
            simp only [g1, g2, g3, g4', decide_true, Bool.not_true, cond_false, beq_self_eq_true, Bool.true_and]
            subst g1; subst g2; subst g3
            rw [e]
            cases sameTs ks ks' <;> simp [g4]
          · have g4' : ¬ ((ks.length : Int) = (ks'.length : Int)) := by omega
            simp [g1, g2, g3, g4, g4']
        · have g3' : (l == l') = false := by cases l <;> cases l' <;> first | rfl | exact absurd rfl g3
          simp only [g1, g2, g3', decide_true, Bool.not_true, Bool.not_false, cond_true, cond_false, Bool.true_and, Bool.false_and]
      · simp [g1, g2]
    · simp [g1]
theorem same_s0 : ∀ (n t : ByteArray) (l : Bool) (n' t' : ByteArray) (l' : Bool) (pre pre' ks ks' : List Tr), pre.length = pre'.length → ks.length = ks'.length → (pre ++ ks).length ≤ 1048576 → szs ks ≤ 1048576 → szs ks' ≤ 1048576 →
    Ls_l01Same_0 (pre.length : Int) n t l (avs (pre ++ ks)) n' t' l' (avs (pre' ++ ks')) = some (bif sameTs ks ks' then .inr () else .inl false)
  | n, t, l, n', t', l', pre, pre', [], ks', hp, hk, hl, h1, h2 => by
    refine ls_l01Same_0 _ _ _ _ _ _ _ _ _ ?_
    simp [avs_len, sameTs]
  | n, t, l, n', t', l', pre, pre', k :: ks, [], hp, hk, hl, h1, h2 => by simp at hk
  | n, t, l, n', t', l', pre, pre', k :: ks, q :: qs, hp, hk, hl, h1, h2 => by
    simp only [szs] at h1 h2
    have hm := mid_lt pre ks k
    have hm' : pre.length < (pre' ++ q :: qs).length := by simp; omega
    have e := same_s0 n t l n' t' l' (pre ++ [k]) (pre' ++ [q]) ks qs (by simp [hp]) (by simpa using hk) (by simpa using hl) (by omega) (by omega)
    have el : ∀ x : Tr, (pre ++ [x]).length = pre.length + 1 := fun x => by simp
    simp only [List.append_assoc, List.cons_append, List.nil_append, el] at e
    refine ls_l01Same_0 _ _ _ _ _ _ _ _ _ ?_
    simp only [Int.toNat_natCast, avs_get, avs_get2 _ _ _ _ hp, av_shape, av_0, av_1, av_2, av_3, avs_len, dlt_true hm, dlt_true hm', d0_true, Bool.and_self, cond_true, same_s k q (by omega) (by omega), Option.bind_some, wrap_succ hm (by omega), e, sameTs]
    cases sameT k q <;> simp
end
theorem sameList_s : ∀ (pre pre' ks ks' : List Tr), pre.length = pre'.length → ks.length = ks'.length → (pre ++ ks).length ≤ 1048576 → szs ks ≤ 1048576 → szs ks' ≤ 1048576 →
    Ls_l15SameList_0 (avs (pre ++ ks)) (avs (pre' ++ ks')) (pre.length : Int) = some (bif sameTs ks ks' then .inr () else .inl false)
  | pre, pre', [], ks', hp, hk, hl, h1, h2 => by
    refine ls_l15SameList_0 _ _ _ ?_
    simp [avs_len, sameTs]
  | pre, pre', k :: ks, [], hp, hk, hl, h1, h2 => by simp at hk
  | pre, pre', k :: ks, q :: qs, hp, hk, hl, h1, h2 => by
    simp only [szs] at h1 h2
    have hm := mid_lt pre ks k
    have hm' : pre.length < (pre' ++ q :: qs).length := by simp; omega
    have e := sameList_s (pre ++ [k]) (pre' ++ [q]) ks qs (by simp [hp]) (by simpa using hk) (by simpa using hl) (by omega) (by omega)
    have el : ∀ x : Tr, (pre ++ [x]).length = pre.length + 1 := fun x => by simp
    simp only [List.append_assoc, List.cons_append, List.nil_append, el] at e
    refine ls_l15SameList_0 _ _ _ ?_
    simp only [Int.toNat_natCast, avs_get, avs_get2 _ _ _ _ hp, av_shape, av_0, av_1, av_2, av_3, avs_len, dlt_true hm, dlt_true hm', d0_true, Bool.and_self, cond_true, same_s k q (by omega) (by omega), Option.bind_some, wrap_succ hm (by omega), e, sameTs]
    cases sameT k q <;> simp
theorem sameL_s (xs ys : List Tr) (hl : xs.length ≤ 1048576) (h1 : szs xs ≤ 1048576) (h2 : szs ys ≤ 1048576) : Fs_l15SameList (avs xs) (avs ys) = some (sameL xs ys) := by
  refine us_l15SameList _ _ ?_
  simp only [avs_len, sameL]
  by_cases g : xs.length = ys.length
  · have e := sameList_s [] [] xs ys rfl g (by simpa using hl) h1 h2
    simp only [List.nil_append, List.length_nil, Int.natCast_zero] at e
    have g' : ((xs.length : Int) = (ys.length : Int)) := by omega
    simp only [g', decide_true, Bool.not_true, cond_false, e]
    cases sameTs xs ys <;> simp [g]
  · have g' : ¬ ((xs.length : Int) = (ys.length : Int)) := by omega
    simp [g, g']
mutual
theorem same_i : ∀ (a b : Tr), sz a ≤ 1048576 → sz b ≤ 1048576 → Fi_same a.name a.text a.leaf (avs a.kids) b.name b.text b.leaf (avs b.kids) = some (sameT a b)
  | .mk n t l ks, .mk n' t' l' ks', h, h' => by
    simp only [sz] at h h'
    refine ui_same _ _ _ _ _ _ _ _ ?_
    simp only [Tr.name, Tr.text, Tr.leaf, Tr.kids, sameT, avs_len]
    by_cases g1 : n = n'
    · by_cases g2 : t = t'
      · by_cases g3 : l = l'
        · by_cases g4 : ks.length = ks'.length
          · have e := same_i0 n t l n' t' l' [] [] ks ks' rfl g4 (by simp; omega) (by omega) (by omega)
            simp only [List.nil_append, List.length_nil, Int.natCast_zero] at e
            have g4' : ((ks.length : Int) = (ks'.length : Int)) := by omega
            simp only [g1, g2, g3, g4', decide_true, Bool.not_true, cond_false, beq_self_eq_true, Bool.true_and]
            subst g1; subst g2; subst g3
            rw [← g4', e]
            cases sameTs ks ks' <;> simp [g4]
          · have g4' : ¬ ((ks.length : Int) = (ks'.length : Int)) := by omega
            simp [g1, g2, g3, g4, g4']
        · have g3' : (l == l') = false := by cases l <;> cases l' <;> first | rfl | exact absurd rfl g3
          simp only [g1, g2, g3', decide_true, Bool.not_true, Bool.not_false, cond_true, cond_false, Bool.true_and, Bool.false_and]
      · simp [g1, g2]
    · simp [g1]
theorem same_i0 : ∀ (n t : ByteArray) (l : Bool) (n' t' : ByteArray) (l' : Bool) (pre pre' ks ks' : List Tr), pre.length = pre'.length → ks.length = ks'.length → (pre ++ ks).length ≤ 1048576 → szs ks ≤ 1048576 → szs ks' ≤ 1048576 →
    Li_same_0 ((pre ++ ks).length : Int) (pre.length : Int) n t l (avs (pre ++ ks)) n' t' l' (avs (pre' ++ ks')) = some (bif sameTs ks ks' then .inr () else .inl false)
  | n, t, l, n', t', l', pre, pre', [], ks', hp, hk, hl, h1, h2 => by
    refine li_same_0 _ _ _ _ _ _ _ _ _ _ ?_
    simp [sameTs]
  | n, t, l, n', t', l', pre, pre', k :: ks, [], hp, hk, hl, h1, h2 => by simp at hk
  | n, t, l, n', t', l', pre, pre', k :: ks, q :: qs, hp, hk, hl, h1, h2 => by
    simp only [szs] at h1 h2
    have hm := mid_lt pre ks k
    have hm' : pre.length < (pre' ++ q :: qs).length := by simp; omega
    have e := same_i0 n t l n' t' l' (pre ++ [k]) (pre' ++ [q]) ks qs (by simp [hp]) (by simpa using hk) (by simpa using hl) (by omega) (by omega)
    have el : ∀ x : Tr, (pre ++ [x]).length = pre.length + 1 := fun x => by simp
    simp only [List.append_assoc, List.cons_append, List.nil_append, el] at e
    refine li_same_0 _ _ _ _ _ _ _ _ _ _ ?_
    simp only [Int.toNat_natCast, avs_get, avs_get2 _ _ _ _ hp, av_shape, av_0, av_1, av_2, av_3, avs_len, dlt_true hm, dlt_true hm', d0_true, Bool.and_self, cond_true, same_i k q (by omega) (by omega), Option.bind_some, wrap_succ hm (by omega), e, sameTs]
    cases sameT k q <;> simp
end
theorem sameList_i : ∀ (pre pre' ks ks' : List Tr), pre.length = pre'.length → ks.length = ks'.length → (pre ++ ks).length ≤ 1048576 → szs ks ≤ 1048576 → szs ks' ≤ 1048576 →
    Li_sameList_0 (avs (pre ++ ks)) (avs (pre' ++ ks')) ((pre ++ ks).length : Int) (pre.length : Int) = some (bif sameTs ks ks' then .inr () else .inl false)
  | pre, pre', [], ks', hp, hk, hl, h1, h2 => by
    refine li_sameList_0 _ _ _ _ ?_
    simp [sameTs]
  | pre, pre', k :: ks, [], hp, hk, hl, h1, h2 => by simp at hk
  | pre, pre', k :: ks, q :: qs, hp, hk, hl, h1, h2 => by
    simp only [szs] at h1 h2
    have hm := mid_lt pre ks k
    have hm' : pre.length < (pre' ++ q :: qs).length := by simp; omega
    have e := sameList_i (pre ++ [k]) (pre' ++ [q]) ks qs (by simp [hp]) (by simpa using hk) (by simpa using hl) (by omega) (by omega)
    have el : ∀ x : Tr, (pre ++ [x]).length = pre.length + 1 := fun x => by simp
    simp only [List.append_assoc, List.cons_append, List.nil_append, el] at e
    refine li_sameList_0 _ _ _ _ ?_
    simp only [Int.toNat_natCast, avs_get, avs_get2 _ _ _ _ hp, av_shape, av_0, av_1, av_2, av_3, avs_len, dlt_true hm, dlt_true hm', d0_true, Bool.and_self, cond_true, same_i k q (by omega) (by omega), Option.bind_some, wrap_succ hm (by omega), e, sameTs]
    cases sameT k q <;> simp
theorem sameL_i (xs ys : List Tr) (hl : xs.length ≤ 1048576) (h1 : szs xs ≤ 1048576) (h2 : szs ys ≤ 1048576) : Fi_sameList (avs xs) (avs ys) = some (sameL xs ys) := by
  refine ui_sameList _ _ ?_
  simp only [avs_len, sameL]
  by_cases g : xs.length = ys.length
  · have e := sameList_i [] [] xs ys rfl g (by simpa using hl) h1 h2
    simp only [List.nil_append, List.length_nil, Int.natCast_zero] at e
    have g' : ((xs.length : Int) = (ys.length : Int)) := by omega
    simp only [g', decide_true, Bool.not_true, cond_false]
    rw [← g', e]
    cases sameTs xs ys <;> simp [g]
  · have g' : ¬ ((xs.length : Int) = (ys.length : Int)) := by omega
    simp [g, g']
end Go.Proofs.Ytnbpmjfemeeecaa
