/- The law Edited answers true at all plain arguments; no condition. -/
import Derived.Test.YtlaalinfmhiehaaTEdited
import Derived.Test.YtlaalinfmhiehaaUt
namespace Go.Proofs.Ytlaalinfmhiehaa
open Go.VK AVal
theorem s61 (n a b : Int) : Fs_l01Between n a b = some (decide (a ≤ n) && decide (n ≤ b)) := by
  refine us_l01Between _ _ _ ?_
  by_cases h : a ≤ n <;> simp [h]
theorem s17 (a b : Int) (c : ByteArray) : Fl_toTextEdit a b c = some (a, b, c) := ul_toTextEdit _ _ _ rfl
theorem s15 (a b : Int) (c : ByteArray) (l : Int) : Fl_szTextEdit a b c l = some (if IntKind.wrap .i64 (l - c.size) < 0 then -1 else IntKind.wrap .i64 (l - c.size)) := by
  refine ul_szTextEdit _ _ _ _ ?_
  by_cases h : IntKind.wrap .i64 (l - c.size) < 0 <;> simp [h]
/-- what Edited gives -/
def editedV (x : ByteArray) (a d : Int) (y : ByteArray) : ByteArray × Int :=
  if 4000 < (x.size : Int) then (⟨#[]⟩, 1) else
  if ¬ (0 ≤ a ∧ a ≤ (x.size : Int)) then (⟨#[]⟩, 1) else
  if ¬ (0 ≤ d ∧ d ≤ (x.size : Int) - a) then (⟨#[]⟩, 1) else
  if 4000 < (x.size : Int) - d + (y.size : Int) then (⟨#[]⟩, 3) else
  ((x.extract 0 a.toNat ++ y) ++ x.extract (a + d).toNat x.size, 0)
theorem s16 (x : ByteArray) (a d : Int) (y : ByteArray) (hy : y.size ≤ 1048576) : Fs_Edited x a d y = some (editedV x a d y) := by
  refine us_Edited _ _ _ _ ?_
  unfold editedV
  simp only [s61, Option.bind_some]
  by_cases h1 : 4000 < (x.size : Int)
  · simp [h1]
  by_cases h2 : 0 ≤ a ∧ a ≤ (x.size : Int)
  · rw [wrap64 (n := (x.size : Int) - a) (by omega) (by omega)]
    by_cases h3 : 0 ≤ d ∧ d ≤ (x.size : Int) - a
    · rw [wrap64 (n := (x.size : Int) - d) (by omega) (by omega), wrap64 (n := (x.size : Int) - d + (y.size : Int)) (by omega) (by omega), wrap64 (n := a + d) (by omega) (by omega)]
      by_cases h4 : 4000 < (x.size : Int) - d + (y.size : Int)
      · simp [h1, h2, h3, h4]
      · have h5 : (((x.extract 0 a.toNat).size + y.size : Nat) : Int) ≤ maxI64 := by
          rw [ByteArray.size_extract, maxI64]; omega
        have h6 : ((((x.extract 0 a.toNat) ++ y).size + (x.extract (a + d).toNat x.size).size : Nat) : Int) ≤ maxI64 := by
          rw [ByteArray.size_append, ByteArray.size_extract, ByteArray.size_extract, maxI64]; omega
        have h7 : 0 ≤ a + d ∧ a + d ≤ (x.size : Int) := by omega
        simp only [h1, h2, h3, h4, h5, h6, h7, decide_true, decide_false, Bool.and_self, Bool.not_true, cond_true, cond_false, if_false, not_true_eq_false, and_self]
    · have h3' : (decide (0 ≤ d) && decide (d ≤ (x.size : Int) - a)) = false := by simpa using h3
      simp [h1, h2, h3, h3']
  · have h2' : (decide (0 ≤ a) && decide (a ≤ (x.size : Int))) = false := by simpa using h2
    simp [h1, h2, h2']
theorem s18 (x : ByteArray) (a d : Int) (y : ByteArray) (hy : y.size ≤ 1048576) : Fi_Edited x a d y = some (editedV x a d y) := by
  refine ui_Edited _ _ _ _ ?_
  unfold editedV
  by_cases h1 : 4000 < (x.size : Int)
  · simp [h1]
  by_cases h2 : a < 0
  · have : ¬ (0 ≤ a ∧ a ≤ (x.size : Int)) := by omega
    simp [h1, h2, this]
  by_cases h2' : (x.size : Int) < a
  · have : ¬ (0 ≤ a ∧ a ≤ (x.size : Int)) := by omega
    simp [h1, h2, h2', this]
  rw [wrap64 (n := (x.size : Int) - a) (by omega) (by omega)]
  have g2 : 0 ≤ a ∧ a ≤ (x.size : Int) := by omega
  by_cases h3 : d < 0
  · have : ¬ (0 ≤ d ∧ d ≤ (x.size : Int) - a) := by omega
    simp [h1, h2, h2', h3, this, g2]
  by_cases h3' : (x.size : Int) - a < d
  · have : ¬ (0 ≤ d ∧ d ≤ (x.size : Int) - a) := by omega
    simp [h1, h2, h2', h3, h3', this, g2]
  have g3 : 0 ≤ d ∧ d ≤ (x.size : Int) - a := by omega
  rw [wrap64 (n := (x.size : Int) - d) (by omega) (by omega), wrap64 (n := (x.size : Int) - d + (y.size : Int)) (by omega) (by omega), wrap64 (n := a + d) (by omega) (by omega)]
  by_cases h4 : 4000 < (x.size : Int) - d + (y.size : Int)
  · simp [h1, h2, h2', h3, h3', h4, g2, g3]
  · have h5 : (((x.extract 0 a.toNat).size + y.size : Nat) : Int) ≤ maxI64 := by
      rw [ByteArray.size_extract, maxI64]; omega
    have h6 : ((((x.extract 0 a.toNat) ++ y).size + (x.extract (a + d).toNat x.size).size : Nat) : Int) ≤ maxI64 := by
      rw [ByteArray.size_append, ByteArray.size_extract, ByteArray.size_extract, maxI64]; omega
    have h7 : 0 ≤ a + d ∧ a + d ≤ (x.size : Int) := by omega
    simp only [h1, h2, h2', h3, h3', h4, h5, h6, h7, g2, g3, decide_true, decide_false, Bool.and_self, cond_true, cond_false, if_false, not_true_eq_false, and_self]
theorem law4 (x : ByteArray) (a d : Int) (y : ByteArray) (hm : y.size ≤ maxLen) : Fl_FnExactEdited x a d y = some true := by
  refine ul_FnExactEdited _ _ _ _ ?_
  simp only [s15, s17, Option.bind_some]
  by_cases h1 : 1048576 < (x.size : Int)
  · simp [h1]
  have hw : IntKind.wrap .i64 (1048576 - (y.size : Int)) = 1048576 - (y.size : Int) := wrap64 (by unfold maxLen at hm; omega) (by omega)
  rw [hw]
  by_cases hy : y.size ≤ 1048576
  · have h2 : ¬ (1048576 : Int) - (y.size : Int) < 0 := by omega
    rw [s16 x a d y hy, s18 x a d y hy]
    simp [h1, h2]
  · have h2 : (1048576 : Int) - (y.size : Int) < 0 := by omega
    simp [h1, h2]
theorem lawEdited : ∀ xs, FitsL ctx [ty_string, ty_laws_TextEdit] xs → ∃ k, vcall ctx k n_l_FnExactEdited xs [] = some ([.bool true], []) := by
  intro xs h
  obtain ⟨x, r, rfl, h1, h⟩ := h.cons'
  obtain ⟨y, r, rfl, h2, h⟩ := h.cons'
  obtain rfl := h.nil'
  obtain ⟨s, rfl, _⟩ := h1.str' (by kernel_rfl)
  obtain ⟨fs, rfl, g⟩ := h2.struct' (us := [ty_int, ty_int, ty_string]) (by kernel_rfl)
  obtain ⟨a, r, rfl, g1, g⟩ := g.cons'
  obtain ⟨d, r, rfl, g2, g⟩ := g.cons'
  obtain ⟨z, r, rfl, g3, g⟩ := g.cons'
  obtain rfl := g.nil'
  obtain ⟨a, rfl, _⟩ := g1.int' (k := .i64) (by kernel_rfl)
  obtain ⟨d, rfl, _⟩ := g2.int' (k := .i64) (by kernel_rfl)
  obtain ⟨z, rfl, hz⟩ := g3.str' (by kernel_rfl)
  exact law_of (S := sgl_FnExactEdited) (a := (s, a, d, z)) (law4 s a d z hz) rfl rfl
end Go.Proofs.Ytlaalinfmhiehaa
