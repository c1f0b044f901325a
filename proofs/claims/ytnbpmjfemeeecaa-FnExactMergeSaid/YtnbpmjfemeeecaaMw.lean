/- The law Merge answers true at all plain arguments; no condition. -/
import Derived.Test.YtnbpmjfemeeecaaMh
import Derived.Test.YtnbpmjfemeeecaaRr
import Derived.Test.YtnbpmjfemeeecaaTc
import Derived.Test.YtnbpmjfemeeecaaTn
import Derived.Test.YtnbpmjfemeeecaaTm
namespace Go.Proofs.Ytnbpmjfemeeecaa
open Go.VK AVal
open Tr
/-- no tree -/
def noTr' : Tr := .mk ByteArray.empty ByteArray.empty false []
theorem merge2 (b m y : Tr) (hs : sz b + sz m + sz y ≤ 1048576) : ∃ (V : Tr) (cl : List (List Int)) (c : Int), sz V ≤ 1048576 ∧ cl.length ≤ 3000000 ∧ totL cl ≤ 200000000 ∧ (∀ q ∈ cl, q.length ≤ 61) ∧
    Fs_Merge b.name b.text b.leaf (avs b.kids) m.name m.text m.leaf (avs m.kids) y.name y.text y.leaf (avs y.kids) = some (V.name, V.text, V.leaf, avs V.kids, cl.map rowv, c) ∧
    Fi_Merge b.name b.text b.leaf (avs b.kids) m.name m.text m.leaf (avs m.kids) y.name y.text y.leaf (avs y.kids) = some (V.name, V.text, V.leaf, ows V.kids, cl.map rowo, c) := by
  have z : sz noTr' ≤ 1048576 := by simp [noTr', sz, szs]
  by_cases g1 : tokB2 b = true
  · by_cases g2 : tokB2 m = true
    · by_cases g3 : tokB2 y = true
      · have hd : dep b ≤ 60 := by simp only [tokB2, Bool.and_eq_true, decide_eq_true_eq] at g1; exact g1.2.1
        obtain ⟨R, cl, r1, r2, r3, r4, r5⟩ := trees2 (sz b + 1) b m y [] [] (by omega) hs (by simp only [List.length_nil]; omega) (by simp only [List.length_nil]; omega) (by simp)
        simp only [List.map_nil, T5] at r4 r5
        simp only [List.length_nil] at r2
        have hR : sz R ≤ 1048576 := by omega
        by_cases g4 : tokB2 R = true
        · refine ⟨R, cl, 0, hR, by omega, ?_, r3, us_Merge _ _ _ _ _ _ _ _ _ _ _ _ ?_, ui_Merge _ _ _ _ _ _ _ _ _ _ _ _ ?_⟩
          · have := totL_le r3; omega
          · simp only [s30 b (by omega), s30 m (by omega), s30 y (by omega), g1, g2, g3, Option.bind_some, Bool.not_true, cond_false, r5, s30 R hR, g4, s93 R hR, asRoL_rowo]
          · simp only [s32 b (by omega), s32 m (by omega), s32 y (by omega), g1, g2, g3, Option.bind_some, Bool.not_true, cond_false, r4, s32 R hR, g4, s96 R hR]
        · refine ⟨noTr', [], 3, z, by simp, by simp [totL], by simp, us_Merge _ _ _ _ _ _ _ _ _ _ _ _ ?_, ui_Merge _ _ _ _ _ _ _ _ _ _ _ _ ?_⟩
          · simp only [s30 b (by omega), s30 m (by omega), s30 y (by omega), g1, g2, g3, Option.bind_some, Bool.not_true, cond_false, r5, s30 R hR, Bool.eq_false_iff.2 g4, Bool.not_false, cond_true]; rfl
          · simp only [s32 b (by omega), s32 m (by omega), s32 y (by omega), g1, g2, g3, Option.bind_some, Bool.not_true, cond_false, r4, s32 R hR, Bool.eq_false_iff.2 g4, Bool.not_false, cond_true]; rfl
      · refine ⟨noTr', [], 1, z, by simp, by simp [totL], by simp, us_Merge _ _ _ _ _ _ _ _ _ _ _ _ ?_, ui_Merge _ _ _ _ _ _ _ _ _ _ _ _ ?_⟩
        · simp only [s30 b (by omega), s30 m (by omega), s30 y (by omega), g1, g2, Bool.eq_false_iff.2 g3, Option.bind_some, Bool.not_true, Bool.not_false, cond_false, cond_true]; rfl
        · simp only [s32 b (by omega), s32 m (by omega), s32 y (by omega), g1, g2, Bool.eq_false_iff.2 g3, Option.bind_some, Bool.not_true, Bool.not_false, cond_false, cond_true]; rfl
    · refine ⟨noTr', [], 1, z, by simp, by simp [totL], by simp, us_Merge _ _ _ _ _ _ _ _ _ _ _ _ ?_, ui_Merge _ _ _ _ _ _ _ _ _ _ _ _ ?_⟩
      · simp only [s30 b (by omega), s30 m (by omega), g1, Bool.eq_false_iff.2 g2, Option.bind_some, Bool.not_true, Bool.not_false, cond_false, cond_true]; rfl
      · simp only [s32 b (by omega), s32 m (by omega), g1, Bool.eq_false_iff.2 g2, Option.bind_some, Bool.not_true, Bool.not_false, cond_false, cond_true]; rfl
  · refine ⟨noTr', [], 1, z, by simp, by simp [totL], by simp, us_Merge _ _ _ _ _ _ _ _ _ _ _ _ ?_, ui_Merge _ _ _ _ _ _ _ _ _ _ _ _ ?_⟩
    · simp only [s30 b (by omega), Bool.eq_false_iff.2 g1, Option.bind_some, Bool.not_false, cond_true]; rfl
    · simp only [s32 b (by omega), Bool.eq_false_iff.2 g1, Option.bind_some, Bool.not_false, cond_true]; rfl
theorem lawMg (b m y : Tr) (hb : wf b) (hm : wf m) (hy : wf y) : Fl_FnExactMerge b.name b.text b.leaf (avs b.kids) m.name m.text m.leaf (avs m.kids) y.name y.text y.leaf (avs y.kids) = some true := by
  refine ul_FnExactMerge _ _ _ _ _ _ _ _ _ _ _ _ ?_
  simp only [s29 b 1048576 hb (by omega) (by omega), Option.bind_some]
  by_cases g : szR 1048576 (sz b) < 0
  · simp only [g, decide_true, cond_true]
  have gl := szR_le _ _ g
  have hB : sz b ≤ 1048576 := by have := szR_nn g; omega
  simp only [g, decide_false, cond_false, s29 m _ hm gl.1 gl.2, Option.bind_some]
  by_cases g' : szR (szR 1048576 (sz b)) (sz m) < 0
  · simp only [g', decide_true, cond_true]
  have gl' := szR_le _ _ g'
  simp only [g', decide_false, cond_false, s29 y _ hy gl'.1 (Int.le_trans gl'.2 gl.2), Option.bind_some]
  by_cases g'' : szR (szR (szR 1048576 (sz b)) (sz m)) (sz y) < 0
  · simp only [g'', decide_true, cond_true]
  have hs : sz b + sz m + sz y ≤ 1048576 := by
    rw [szR_step g] at g' g''
    rw [szR_step g'] at g''
    have := szR_nn g''; omega
  obtain ⟨V, cl, c, v1, v2, v3, v4, v5, v6⟩ := merge2 b m y hs
  have hM : sz m ≤ 1048576 := by omega
  have hY : sz y ≤ 1048576 := by omega
  have c1 := kids_cnt b hB
  have c2 := kids_cnt m hM
  have c3 := kids_cnt y hY
  have c4 := kids_cnt V v1
  have hl : ∀ x ∈ cl, x.length ≤ 1048576 := fun x h => Nat.le_trans (v4 x h) (by omega)
  have e1 := eqSS cl (by omega) hl
  have m1 := mkSS cl (1 + 3 * cnts V.kids) (by omega) hl (by omega) (by omega)
  have h1 := hdSS cl (1 + 3 * cnts V.kids) (by omega) hl (by omega) (by omega)
  have q1 : ¬ ((1 : Int) + 3 * (cnts b.kids : Int) + 3 * (cnts m.kids : Int) + 3 * (cnts y.kids : Int) < 0) := by omega
  have q2 : ¬ ((1 : Int) + 3 * (cnts V.kids : Int) < 0) := by omega
  have q3 : ¬ ((1 : Int) + 3 * (cnts V.kids : Int) + (totL cl : Int) < 0) := by omega
  simp only [g'', decide_false, cond_false, s31 b hB, s31 m hM, s31 y hY, asRoL_ows, v5, v6, noRo_ow, noRoL_map noRo_rowo', asRoL_rowo, Bool.and_self, cond_true, s33 b hB, s33 m hM, s33 y hY, s33 V v1, e1, Option.bind_some, Bool.not_true, decide_true, s52 b hB 1 (by omega) (by omega), s52 m hM (1 + 3 * cnts b.kids) (by omega) (by omega), s52 y hY (1 + 3 * cnts b.kids + 3 * cnts m.kids) (by omega) (by omega), q1, s52 V v1 1 (by omega) (by omega), m1, asRo_mkR, s53 V v1 1 (by omega) (by omega), q2, h1, q3]
theorem lawMerge : ∀ xs, FitsL ctx [ty_laws_Tree, ty_laws_Tree, ty_laws_Tree] xs → ∃ k, vcall ctx k n_l_FnExactMerge xs [] = some ([.bool true], []) := by
  intro xs h
  obtain ⟨x, r, rfl, h1, h⟩ := h.cons'
  obtain ⟨y, r, rfl, h2, h⟩ := h.cons'
  obtain ⟨z, r, rfl, h3, h⟩ := h.cons'
  obtain rfl := h.nil'
  obtain ⟨b, rfl, hb⟩ := fit_tree _ x (Nat.lt_succ_self _) h1
  obtain ⟨m, rfl, hm⟩ := fit_tree _ y (Nat.lt_succ_self _) h2
  obtain ⟨y, rfl, hy⟩ := fit_tree _ z (Nat.lt_succ_self _) h3
  obtain ⟨bn, bt, bl, bk⟩ := b
  obtain ⟨mn, mt, ml, mk⟩ := m
  obtain ⟨yn, yt, yl, yk⟩ := y
  exact law_of (S := sgl_FnExactMerge) (a := (bn, bt, bl, avs bk, mn, mt, ml, avs mk, yn, yt, yl, avs yk)) (lawMg (.mk bn bt bl bk) (.mk mn mt ml mk) (.mk yn yt yl yk) hb hm hy) (by simp only [av]; rfl) rfl
end Go.Proofs.Ytnbpmjfemeeecaa
