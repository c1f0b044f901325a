/- Rows of rows of numbers; where they are not too long. -/
import Derived.Test.YtnbpmjfemeeecaaXe
import Derived.Test.YtnbpmjfemeeecaaXn
namespace Go.Proofs.Ytnbpmjfemeeecaa
open Go.VK AVal
theorem noRo_rowo' (x : List Int) : noRo (rowo x) = true := by simp only [rowo, noRo, noRoL_map noRo_iv]
theorem asRo_rowv' (p : List Int) : asRo (rowv p) = rowv p := by simp only [rowv, asRo]
/-! Rows of rows of numbers -/
def totL : List (List Int) → Nat
  | [] => 0
  | x :: xs => x.length + totL xs
theorem totL_le {B : Nat} : ∀ {xs : List (List Int)}, (∀ x ∈ xs, x.length ≤ B) → totL xs ≤ xs.length * B
  | [], _ => Nat.zero_le _
  | x :: xs, h => by
    have h1 := h x (by simp)
    have h2 := totL_le (xs := xs) fun y hy => h y (by simp [hy])
    simp only [totL, List.length_cons, Nat.succ_mul]
    omega
theorem eqSS_0 (xs : List (List Int)) (hl : xs.length ≤ 100000000) (hx : ∀ x ∈ xs, x.length ≤ 1048576) : ∀ n i : Nat, i + n = xs.length → Ll_eqIntSS_0 (xs.map rowv) (xs.map rowv) (i : Int) = some (.inr ())
  | 0, i, h => by
    refine ll_eqIntSS_0 _ _ _ ?_
    simp [show ¬ i < xs.length by omega]
  | n + 1, i, h => by
    have hi : i < xs.length := by omega
    refine ll_eqIntSS_0 _ _ _ ?_
    simp only [List.length_map, Int.toNat_natCast, dlt_true hi, d0_true, Bool.and_self, cond_true, cond_false, getD_map rowv hi, e_row, e_elems, s24 xs[i] (hx _ (List.getElem_mem hi)), Option.bind_some, Bool.not_true, wrap_succ hi (by omega), eqSS_0 xs hl hx n (i + 1) (by omega)]
theorem eqSS (xs : List (List Int)) (hl : xs.length ≤ 100000000) (hx : ∀ x ∈ xs, x.length ≤ 1048576) : Fl_eqIntSS (xs.map rowv) (xs.map rowv) = some true := by
  refine ul_eqIntSS _ _ ?_
  have e := eqSS_0 xs hl hx xs.length 0 (by omega)
  simp only [Int.natCast_zero] at e
  simp [e]
def mkR : Int → List (List Int) → List AVal
  | _, [] => []
  | k, x :: xs => .own 1 (marks k x.length) :: mkR (k + x.length) xs
def mkV : Int → List (List Int) → List AVal
  | _, [] => []
  | k, x :: xs => .ro false 1 (marks k x.length) :: mkV (k + x.length) xs
theorem asRo_mkR : ∀ (xs : List (List Int)) (k : Int), asRoL (mkR k xs) = mkV k xs
  | [], k => by simp only [mkR, mkV, asRoL]
  | x :: xs, k => by simp only [mkR, mkV, asRoL, asRo, asRo_marks, asRo_mkR xs]
theorem mkV_len : ∀ (xs : List (List Int)) (k : Int), (mkV k xs).length = xs.length
  | [], k => rfl
  | x :: xs, k => by simp [mkV, mkV_len xs]
theorem mkSS_0 : ∀ (xs : List (List Int)) (pre : List AVal) (k : Int), pre.length + xs.length ≤ 100000000 → (∀ x ∈ xs, x.length ≤ 1048576) → 0 ≤ k → k + totL xs ≤ 1000000000 → Ll_markIntSS_0 k (pre.length : Int) (pre ++ xs.map rowo) = some (k + totL xs, pre ++ mkR k xs)
  | [], pre, k, hl, hx, h1, h2 => by
    refine ll_markIntSS_0 _ _ _ ?_
    simp [mkR, totL]
  | x :: xs, pre, k, hl, hx, h1, h2 => by
    have hm := fun y : AVal => mid_len pre (xs.map rowo) y
    simp only [List.length_cons, totL] at hl h2
    have hxl := hx x (by simp)
    have ih := mkSS_0 xs (pre ++ [.own 1 (marks k x.length)]) (k + x.length) (by simp; omega) (fun y hy => hx y (by simp [hy])) (by omega) (by omega)
    simp only [List.append_assoc, List.cons_append, List.nil_append, List.length_append, List.length_cons, List.length_nil, Nat.zero_add] at ih
    have a0 : CT.shape (.slice 1) (rowo x) = true := rfl
    have a1 : lend.isOwn (rowo x) = true := rfl
    have a2 : CT.shOwn (.slice 1) (rowo x) = true := rfl
    have a3 : (rowo x).elems = x.map iv := rfl
    have a4 : aggQ AVal.und = false := rfl
    refine ll_markIntSS_0 _ _ _ ?_
    simp only [List.map_cons, Int.toNat_natCast, dlt_true (hm _), d0_true, Bool.and_self, cond_true, mid_get, mid_set, blt_true (hm _), a0, a1, a2, a3, a4, Bool.not_false, s26 x k (by omega) h1 (by omega), Option.bind_some, wrap_succ (hm (rowo x)) (by simp; omega), ih, totL, mkR, Option.some.injEq, Prod.mk.injEq, and_true]
    omega
theorem mkSS (xs : List (List Int)) (k : Int) (hl : xs.length ≤ 100000000) (hx : ∀ x ∈ xs, x.length ≤ 1048576) (h1 : 0 ≤ k) (h2 : k + totL xs ≤ 1000000000) : Fl_markIntSS k (xs.map rowo) = some (k + totL xs, mkR k xs) := by
  refine ul_markIntSS _ _ ?_
  have e := mkSS_0 xs [] k (by simp; omega) hx h1 h2
  simp only [List.nil_append, List.length_nil, Int.natCast_zero] at e
  simp [e]
theorem hdSS_0 : ∀ (xs : List (List Int)) (pre : List AVal) (k : Int), pre.length + xs.length ≤ 100000000 → (∀ x ∈ xs, x.length ≤ 1048576) → 0 ≤ k → k + totL xs ≤ 1000000000 → Ll_heldIntSS_0 (pre ++ mkV k xs) k (pre.length : Int) = some (.inr (k + totL xs))
  | [], pre, k, hl, hx, h1, h2 => by
    refine ll_heldIntSS_0 _ _ _ ?_
    simp [mkV, totL]
  | x :: xs, pre, k, hl, hx, h1, h2 => by
    have hm := mid_len pre (mkV (k + x.length) xs) (.ro false 1 (marks k x.length))
    simp only [List.length_cons, totL] at hl h2
    have hxl := hx x (by simp)
    have ih := hdSS_0 xs (pre ++ [.ro false 1 (marks k x.length)]) (k + x.length) (by simp; omega) (fun y hy => hx y (by simp [hy])) (by omega) (by omega)
    simp only [List.append_assoc, List.cons_append, List.nil_append, List.length_append, List.length_cons, List.length_nil, Nat.zero_add] at ih
    have a0 : CT.shape (.slice 1) (.ro false 1 (marks k x.length)) = true := rfl
    have a3 : (AVal.ro false 1 (marks k x.length)).elems = marks k x.length := rfl
    have q : ¬ (k + (x.length : Int) < 0) := by omega
    rw [show mkV k (x :: xs) = .ro false 1 (marks k x.length) :: mkV (k + x.length) xs from rfl]
    refine ll_heldIntSS_0 _ _ _ ?_
    simp only [Int.toNat_natCast, dlt_true hm, d0_true, Bool.and_self, cond_true, cond_false, mid_get, a0, a3, s28 x.length k (by omega) h1 (by omega), Option.bind_some, q, decide_false, wrap_succ hm (by simp [mkV_len]; omega), ih, totL, Option.some.injEq, Sum.inr.injEq]
    omega
theorem hdSS (xs : List (List Int)) (k : Int) (hl : xs.length ≤ 100000000) (hx : ∀ x ∈ xs, x.length ≤ 1048576) (h1 : 0 ≤ k) (h2 : k + totL xs ≤ 1000000000) : Fl_heldIntSS (mkV k xs) k = some (k + totL xs) := by
  refine ul_heldIntSS _ _ ?_
  have e := hdSS_0 xs [] k (by simp; omega) hx h1 h2
  simp only [List.nil_append, List.length_nil, Int.natCast_zero] at e
  simp [e]
end Go.Proofs.Ytnbpmjfemeeecaa
