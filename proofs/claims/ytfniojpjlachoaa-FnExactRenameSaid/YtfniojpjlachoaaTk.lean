/- What the functions on trees give: copies, equality with itself, names, counts, depths, measures; where the tree is not too large. -/
import Derived.Test.YtfniojpjlachoaaTr
namespace Go.Proofs.Ytfniojpjlachoaa
open Go.VK AVal Tr
def zTr : AVal := .agg [.str ByteArray.empty, .str ByteArray.empty, .bool false, .own 4 []]
theorem fill_get (pre : List Tr) (z : AVal) (n : Nat) : (ows pre ++ List.replicate (n + 1) z).getD pre.length .und = z := by
  rw [List.getD_eq_getElem?_getD, List.getElem?_append_right (by simp [ows_len]), ows_len, Nat.sub_self]; rfl
theorem fill_set (pre : List Tr) (k : Tr) (z : AVal) (n : Nat) : (ows pre ++ List.replicate (n + 1) z).set pre.length (ow k) = ows (pre ++ [k]) ++ List.replicate n z := by
  rw [List.set_append_right _ _ (by simp [ows_len]), ows_len, Nat.sub_self, List.replicate_succ]
  simp [ows_map]
theorem fill_len (pre : List Tr) (z : AVal) (n : Nat) : (ows pre ++ List.replicate n z).length = pre.length + n := by simp [ows_len]
mutual
theorem s31 : ∀ t : Tr, sz t ≤ 1048576 → Fl_toTree t.name t.text t.leaf (avs t.kids) = some (t.name, t.text, t.leaf, ows t.kids)
  | mk n t b ks, h => by
    simp only [sz] at h
    refine ul_toTree _ _ _ _ ?_
    simp only [Tr.name, Tr.text, Tr.leaf, Tr.kids, s67 ks (by omega), Option.bind_some]
theorem s67 : ∀ ks : List Tr, ks.length + szs ks ≤ 1048576 → Fl_toTreeS (avs ks) = some (ows ks)
  | ks, h => by
    refine ul_toTreeS _ ?_
    have := s67_0 [] ks (by simp; omega) (by omega)
    simp only [List.nil_append, List.length_nil, Int.natCast_zero] at this
    have hc : capB ks.length 64 = true := capB_le (by omega)
    have h0 : (0 : Int) ≤ (ks.length : Int) := by omega
    have e0 : ows [] ++ List.replicate ks.length zTr = List.replicate ks.length (.agg [.str ByteArray.empty, .str ByteArray.empty, .bool false, .own 4 []]) := by simp [ows, zTr]
    rw [e0] at this
    simp only [avs_len, Int.toNat_natCast, h0, hc, Int.le_refl, decide_true, Bool.and_self, cond_true, bnd_eq, this, Option.bind_some]
theorem s67_0 : ∀ (pre ks : List Tr), (pre ++ ks).length ≤ 1048576 → szs ks ≤ 1048576 → Ll_toTreeS_0 (avs (pre ++ ks)) (pre.length : Int) (ows pre ++ List.replicate ks.length zTr) = some (ows (pre ++ ks))
  | pre, [], hl, h => by
    refine ll_toTreeS_0 _ _ _ ?_
    simp [avs_len]
  | pre, k :: ks, hl, h => by
    simp only [szs] at h
    have hm := mid_lt pre ks k
    have ih := s67_0 (pre ++ [k]) ks (by simpa using hl) (by omega)
    simp only [List.append_assoc, List.cons_append, List.nil_append, List.length_append, List.length_cons, List.length_nil, Nat.zero_add] at ih
    refine ll_toTreeS_0 _ _ _ ?_
    have hb : Nat.blt pre.length (pre.length + (ks.length + 1)) = true := by simp
    have e : (AVal.agg (setMany zTr.cells 0 [.str k.name, .str k.text, .bool k.leaf, .own 4 (ows k.kids)])) = ow k := by cases k; rfl
    have g1 : aggQ zTr = true := rfl
    have g2 : Nat.ble 4 zTr.cells.length = true := rfl
    have hd : decide ((pre.length : Int) < ((pre.length + (ks.length + 1) : Nat) : Int)) = true := by simp; omega
    simp only [Int.toNat_natCast, avs_get, av_shape, av_0, av_1, av_2, av_3, avs_len, dlt_true hm, d0_true, Bool.and_self, s31 k (by omega), wrap_succ hm (by omega), cond_true, Option.bind_some, List.length_cons, fill_get, fill_len, hb, hd, e, fill_set, g1, g2, bnd_eq, ih]
end
mutual
theorem s33 : ∀ t : Tr, sz t ≤ 1048576 → Fl_eqTree t.name t.text t.leaf (avs t.kids) t.name t.text t.leaf (avs t.kids) = some true
  | mk n t b ks, h => by
    simp only [sz] at h
    refine ul_eqTree _ _ _ _ _ _ _ _ ?_
    simp [Tr.kids, s69 ks (by omega)]
theorem s69 : ∀ ks : List Tr, ks.length + szs ks ≤ 1048576 → Fl_eqTreeS (avs ks) (avs ks) = some true
  | ks, h => by
    refine ul_eqTreeS _ _ ?_
    have := s69_0 [] ks (by simp; omega) (by omega)
    simp only [List.nil_append, List.length_nil, Int.natCast_zero] at this
    simp [this]
theorem s69_0 : ∀ (pre ks : List Tr), (pre ++ ks).length ≤ 1048576 → szs ks ≤ 1048576 → Ll_eqTreeS_0 (avs (pre ++ ks)) (avs (pre ++ ks)) (pre.length : Int) = some (.inr ())
  | pre, [], hl, h => by
    refine ll_eqTreeS_0 _ _ _ ?_
    simp [avs_len]
  | pre, k :: ks, hl, h => by
    simp only [szs] at h
    have hm := mid_lt pre ks k
    have ih := s69_0 (pre ++ [k]) ks (by simpa using hl) (by omega)
    simp only [List.append_assoc, List.cons_append, List.nil_append, List.length_append, List.length_cons, List.length_nil, Nat.zero_add] at ih
    refine ll_eqTreeS_0 _ _ _ ?_
    simp only [Int.toNat_natCast, avs_get, av_shape, av_0, av_1, av_2, av_3, avs_len, dlt_true hm, d0_true, Bool.and_self, s33 k (by omega), wrap_succ hm (by omega), cond_true, cond_false, Bool.not_true, Option.bind_some, ih]
end
/-! Names -/
def letB (c : Int) : Bool := (decide (97 ≤ c) && decide (c ≤ 122)) || (decide (65 ≤ c) && decide (c ≤ 90))
def digB (c : Int) : Bool := decide (48 ≤ c) && decide (c ≤ 57)
def nmB (c : Int) : Bool := letB c || (digB c || decide (c = 95))
theorem s124 (c : Int) : Fs_l01Letter c = some (letB c) := by
  refine us_l01Letter _ ?_
  unfold letB
  by_cases h1 : 97 ≤ c <;> by_cases h2 : c ≤ 122 <;> by_cases h3 : 65 ≤ c <;> simp [h1, h2, h3]
theorem s114 (c : Int) : Fi_isLetter c = some (letB c) := by
  refine ui_isLetter _ ?_
  unfold letB
  by_cases h1 : 97 ≤ c <;> by_cases h2 : c ≤ 122 <;> by_cases h3 : 65 ≤ c <;> simp [h1, h2, h3]
theorem s131 (c : Int) : Fs_l01Digit c = some (digB c) := by
  refine us_l01Digit _ ?_
  unfold digB
  by_cases h1 : 48 ≤ c <;> simp [h1]
theorem s127 (c : Int) : Fi_isDigit c = some (digB c) := by
  refine ui_isDigit _ ?_
  unfold digB
  by_cases h1 : 48 ≤ c <;> simp [h1]
theorem s125 (c : Int) : Fs_l01NameByte c = some (nmB c) := by
  refine us_l01NameByte _ ?_
  unfold nmB
  simp only [s124, s131, Option.bind_some]
  cases letB c <;> cases digB c <;> simp
theorem s115 (c : Int) : Fi_inName c = some (nmB c) := by
  refine ui_inName _ ?_
  unfold nmB
  simp only [s114, s127, Option.bind_some]
  cases letB c <;> cases digB c <;> simp
/-- all bytes from i on, n of them -/
def allB (p : Int → Bool) (s : ByteArray) : Nat → Nat → Bool
  | _, 0 => true
  | i, n + 1 => p (byteAt s i) && allB p s (i + 1) n
theorem s108_0 (s : ByteArray) (hs : s.size ≤ 1048576) : ∀ n i : Nat, i + n = s.size → Ls_l01Name_0 s (i : Int) = some (if allB nmB s i n then .inr () else .inl false)
  | 0, i, h => by
    refine ls_l01Name_0 _ _ ?_
    simp [allB, show ¬ i < s.size by omega]
  | n + 1, i, h => by
    refine ls_l01Name_0 _ _ ?_
    have hi : i < s.size := by omega
    simp only [dlt_true hi, d0_true, Bool.and_self, cond_true, Int.toNat_natCast, s125, Option.bind_some, wrap_succ hi (by omega), s108_0 s hs n (i + 1) (by omega), allB]
    by_cases g : nmB (byteAt s i) = true <;> simp [g]
theorem s87_0 (s : ByteArray) (hs : s.size ≤ 1048576) : ∀ n i : Nat, i + n = s.size → Li_nameOK_0 s (i : Int) = some (if allB nmB s i n then .inr () else .inl false)
  | 0, i, h => by
    refine li_nameOK_0 _ _ ?_
    simp [allB, show ¬ i < s.size by omega]
  | n + 1, i, h => by
    refine li_nameOK_0 _ _ ?_
    have hi : i < s.size := by omega
    simp only [dlt_true hi, d0_true, Bool.and_self, cond_true, Int.toNat_natCast, s115, Option.bind_some, wrap_succ hi (by omega), s87_0 s hs n (i + 1) (by omega), allB]
    by_cases g : nmB (byteAt s i) = true <;> simp [g]
def nmOK (s : ByteArray) : Bool := decide (1 ≤ s.size) && (decide (s.size ≤ 24) && (letB (byteAt s 0) && allB nmB s 1 (s.size - 1)))
theorem s108 (s : ByteArray) : Fs_l01Name s = some (nmOK s) := by
  refine us_l01Name _ ?_
  unfold nmOK
  by_cases h1 : s.size < 1
  · have : ((s.size : Int) < 1) := by omega
    have : ¬ 1 ≤ s.size := by omega
    simp [*]
  by_cases h2 : 24 < s.size
  · have : (24 < (s.size : Int)) := by omega
    have : ¬ (s.size : Int) < 1 := by omega
    have : ¬ s.size ≤ 24 := by omega
    simp [*]
  have g1 : ¬ (s.size : Int) < 1 := by omega
  have g2 : ¬ (24 < (s.size : Int)) := by omega
  have g3 : (0 < (s.size : Int)) := by omega
  have g4 : 1 ≤ s.size := by omega
  have g5 : s.size ≤ 24 := by omega
  have hl := s108_0 s (by omega) (s.size - 1) 1 (by omega)
  simp only [Int.natCast_one] at hl
  simp only [g1, g2, g3, g4, g5, decide_true, decide_false, cond_true, cond_false, s124, Option.bind_some, hl, Bool.true_and]
  cases letB (byteAt s 0)
  · rfl
  · cases allB nmB s 1 (s.size - 1) <;> rfl
theorem s87 (s : ByteArray) : Fi_nameOK s = some (nmOK s) := by
  refine ui_nameOK _ ?_
  unfold nmOK
  by_cases h1 : s.size < 1
  · have : ((s.size : Int) < 1) := by omega
    have : ¬ 1 ≤ s.size := by omega
    simp [*]
  by_cases h2 : 24 < s.size
  · have : (24 < (s.size : Int)) := by omega
    have : ¬ (s.size : Int) < 1 := by omega
    have : ¬ s.size ≤ 24 := by omega
    simp [*]
  have g1 : ¬ (s.size : Int) < 1 := by omega
  have g2 : ¬ (24 < (s.size : Int)) := by omega
  have g3 : (0 < (s.size : Int)) := by omega
  have g4 : 1 ≤ s.size := by omega
  have g5 : s.size ≤ 24 := by omega
  have hl := s87_0 s (by omega) s.size 0 (by omega)
  simp only [Int.natCast_zero] at hl
  have e : allB nmB s 0 s.size = (nmB (byteAt s 0) && allB nmB s 1 (s.size - 1)) := by
    obtain ⟨m, hm⟩ : ∃ m, s.size = m + 1 := ⟨s.size - 1, by omega⟩
    rw [hm]; rfl
  simp only [g1, g2, g3, g4, g5, decide_true, decide_false, cond_true, cond_false, s114, Option.bind_some, hl, e, Bool.true_and, nmB]
  cases letB (byteAt s 0)
  · rfl
  · simp only [Bool.true_or, Bool.true_and]
    cases allB nmB s 1 (s.size - 1) <;> rfl
end Go.Proofs.Ytfniojpjlachoaa
