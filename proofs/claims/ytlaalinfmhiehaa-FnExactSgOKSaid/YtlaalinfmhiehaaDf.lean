/- The law DfaRun answers true at all plain arguments; no condition. -/
import Derived.Test.YtlaalinfmhiehaaTDfaRun
import Derived.Test.YtlaalinfmhiehaaAp
import Derived.Test.YtlaalinfmhiehaaLt
namespace Go.Proofs.Ytlaalinfmhiehaa
open Go.VK AVal
def rowv (xs : List Int) : AVal := .ro false 1 (xs.map iv)
def rowo (xs : List Int) : AVal := .own 1 (xs.map iv)
theorem asRo_rowo (xs : List Int) : asRo (rowo xs) = rowv xs := by simp only [rowo, asRo, asRoL_map asRo_iv]; rfl
theorem asRoL_rowo : ∀ xss : List (List Int), asRoL (xss.map rowo) = xss.map rowv
  | [] => by simp [asRoL]
  | x :: r => by simp only [List.map_cons, asRoL, asRo_rowo, asRoL_rowo r]
theorem getD_map' {α : Type} (f : α → AVal) (d : α) {xs : List α} {i : Nat} (h : i < xs.length) : (xs.map f).getD i .und = f (xs.getD i d) := by
  simp [List.getD_eq_getElem?_getD, h]
theorem getD_mem {α : Type} (d : α) {xs : List α} {i : Nat} (h : i < xs.length) : xs.getD i d ∈ xs := by
  simp [List.getD_eq_getElem?_getD, h]
def tot : List (List Int) → Nat | [] => 0 | x :: r => x.length + tot r
/-! Sizes -/
theorem s72 (xs : List AVal) (l : Int) (hl : xs.length ≤ maxLen) (h0 : 0 ≤ l) (h1 : l ≤ 1048576) : Fl_szIntS xs l = some (szR l xs.length) := by
  unfold maxLen at hl
  refine ul_szIntS _ _ ?_
  have e : IntKind.wrap .i64 (l - (xs.length : Int)) = l - (xs.length : Int) := wrap64 (by omega) (by omega)
  unfold szR
  by_cases g : l < (xs.length : Int)
  · have : l - (xs.length : Int) < 0 := by omega
    simp [e, g, this]
  · have : ¬ l - (xs.length : Int) < 0 := by omega
    simp [e, g, this]
theorem s73_0 : ∀ (xss pre : List (List Int)) (l : Int), (pre ++ xss).length ≤ 1048576 → (∀ x ∈ xss, x.length ≤ maxLen) → 0 ≤ l → l ≤ 1048576 → Ll_szIntSS_0 ((pre ++ xss).map rowv) l (pre.length : Int) = some (if l < (tot xss : Int) then .inl (-1) else .inr (l - (tot xss : Int)))
  | [], pre, l, hl, hx, h0, h1 => by
    refine ll_szIntSS_0 _ _ _ ?_
    have : ¬ l < 0 := by omega
    simp [tot, this]
  | x :: xss, pre, l, hl, hx, h0, h1 => by
    have hm := mid_len pre xss x
    have e1 : CT.shape (.slice 1) (rowv x) = true := rfl
    have e2 : (rowv x).elems = x.map iv := rfl
    refine ll_szIntSS_0 _ _ _ ?_
    simp only [Int.toNat_natCast, List.length_map, dlt_true hm, d0_true, Bool.and_self, cond_true, map_mid, e1, e2, s72 (x.map iv) l (by rw [List.length_map]; exact hx x (by simp)) h0 h1, Option.bind_some, wrap_succ hm (by omega), tot]
    unfold szR
    by_cases g : l < (x.length : Int)
    · have : l < ((x.length + tot xss : Nat) : Int) := by omega
      simp only [g, this, if_true]; rfl
    · have ih := s73_0 xss (pre ++ [x]) (l - (x.length : Int)) (by simpa using hl) (fun y hy => hx y (by simp [hy])) (by omega) (by omega)
      simp only [List.append_assoc, List.cons_append, List.nil_append, show ∀ x : List Int, (pre ++ [x]).length = pre.length + 1 from fun x => by simp] at ih
      have h3 : ¬ (l - (x.length : Int) < 0) := by omega
      simp only [g, if_false, h3, decide_false, cond_false, ih]
      by_cases g2 : l - (x.length : Int) < (tot xss : Int)
      · have : l < ((x.length + tot xss : Nat) : Int) := by omega
        simp only [g2, this, if_true]
      · have : ¬ l < ((x.length + tot xss : Nat) : Int) := by omega
        simp only [g2, this, if_false, Option.some.injEq, Sum.inr.injEq]
        omega
theorem s73 (xss : List (List Int)) (l : Int) (hl : xss.length ≤ maxLen) (hx : ∀ x ∈ xss, x.length ≤ maxLen) (h0 : 0 ≤ l) (h1 : l ≤ 1048576) : Fl_szIntSS (xss.map rowv) l = some (szR l (xss.length + tot xss)) := by
  unfold maxLen at hl
  refine ul_szIntSS _ _ ?_
  have e1 : IntKind.wrap .i64 (l - (xss.length : Int)) = l - (xss.length : Int) := wrap64 (by omega) (by omega)
  simp only [List.length_map, e1]
  by_cases g1 : l - (xss.length : Int) < 0
  · have : l < ((xss.length + tot xss : Nat) : Int) := by omega
    simp only [szR, g1, this, decide_true, cond_true, if_true]
  have := s73_0 xss [] (l - (xss.length : Int)) (by simpa using (by omega : xss.length ≤ 1048576)) hx (by omega) (by omega)
  simp only [List.nil_append, List.length_nil, Int.natCast_zero] at this
  rw [this]
  simp only [g1, decide_false, cond_false, szR]
  by_cases g2 : l - (xss.length : Int) < (tot xss : Int)
  · have : l < ((xss.length + tot xss : Nat) : Int) := by omega
    simp only [g2, this, if_true]; rfl
  · have : ¬ l < ((xss.length + tot xss : Nat) : Int) := by omega
    simp only [g2, this, if_false, Option.bind_some, Sum.elim_inr, Option.some.injEq]
    omega
theorem szR_add (l : Int) (a b : Nat) (_h0 : 0 ≤ l) : (if szR l a < 0 then -1 else szR (szR l a) b) = szR l (a + b) := by
  unfold szR
  by_cases g : l < (a : Int)
  · have : l < ((a + b : Nat) : Int) := by omega
    simp [g]; omega
  · have h : ¬ (l - (a : Int) < 0) := by omega
    simp only [g, if_false, h]
    by_cases g2 : l - (a : Int) < (b : Int)
    · have : l < ((a + b : Nat) : Int) := by omega
      simp only [g2, this, if_true]
    · have : ¬ l < ((a + b : Nat) : Int) := by omega
      simp only [g2, this, if_false]; omega
theorem szR_le (l : Int) (a : Nat) (h : ¬ szR l a < 0) : 0 ≤ szR l a ∧ szR l a ≤ l := by unfold szR at h ⊢; split at h <;> split <;> omega
theorem s36 (c : List Int) (x : List (List Int)) (a : List Int) (hc : c.length ≤ maxLen) (hx : x.length ≤ maxLen) (hx2 : ∀ r ∈ x, r.length ≤ maxLen) (ha : a.length ≤ maxLen) :
    Fl_szDfa (c.map iv) (x.map rowv) (a.map iv) 1048576 = some (szR 1048576 (c.length + ((x.length + tot x) + a.length))) := by
  refine ul_szDfa _ _ _ _ ?_
  rw [s72 _ _ (by rw [List.length_map]; exact hc) (by omega) (by omega), List.length_map]
  simp only [Option.bind_some]
  rw [← szR_add 1048576 c.length _ (by omega)]
  by_cases g1 : szR 1048576 c.length < 0
  · simp [g1]
  obtain ⟨b1, b2⟩ := szR_le _ _ g1
  rw [s73 x _ hx hx2 b1 b2]
  simp only [g1, decide_false, cond_false, Option.bind_some, if_false]
  rw [← szR_add (szR 1048576 c.length) (x.length + tot x) a.length b1]
  by_cases g2 : szR (szR 1048576 c.length) (x.length + tot x) < 0
  · simp [g2]
  obtain ⟨b3, b4⟩ := szR_le _ _ g2
  rw [s72 _ _ (by rw [List.length_map]; exact ha) b3 (by omega), List.length_map]
  simp only [g2, decide_false, cond_false, Option.bind_some, if_false]
  by_cases g3 : szR (szR (szR 1048576 c.length) (x.length + tot x)) a.length < 0
  · have : szR (szR (szR 1048576 c.length) (x.length + tot x)) a.length = -1 := by unfold szR at g3 ⊢; split at g3 <;> split <;> omega
    simp [this]
  · simp [g3]
/-! Copies and comparison -/
theorem s75_0 (xs : List (List Int)) (hl : xs.length ≤ 1048576) (hx : ∀ x ∈ xs, x.length ≤ 1048576) : ∀ n i : Nat, i + n = xs.length → Ll_toIntSS_0 (xs.map rowv) (i : Int) (filled rowo (rowo []) xs i) = some (xs.map rowo)
  | 0, i, h => by
    refine ll_toIntSS_0 _ _ _ ?_
    obtain rfl : i = xs.length := by omega
    simp [filled_all]
  | n + 1, i, h => by
    have hi : i < xs.length := by omega
    refine ll_toIntSS_0 _ _ _ ?_
    have e1 : CT.shape (.slice 1) (rowv xs[i]) = true := rfl
    have e2 : aggQ (rowo []) = false := rfl
    have e3 : AVal.own 1 (xs[i].map iv) = rowo xs[i] := rfl
    have e4 : (rowv xs[i]).elems = xs[i].map iv := rfl
    have ih := s75_0 xs hl hx n (i + 1) (by omega)
    simp only [List.length_map, Int.toNat_natCast, dlt_true hi, d0_true, Bool.and_self, cond_true, getD_map rowv hi, e1, e4, s21 xs[i] (hx _ (List.getElem_mem hi)), Option.bind_some, filled_len rowo (rowo []) (Nat.le_of_lt hi), filled_get rowo (rowo []) hi, blt_true hi, e2, Bool.not_false, wrap_succ hi (by omega), e3, filled_set rowo (rowo []) hi, ih]
theorem s75 (xs : List (List Int)) (hl : xs.length ≤ 1048576) (hx : ∀ x ∈ xs, x.length ≤ 1048576) : Fl_toIntSS (xs.map rowv) = some (xs.map rowo) := by
  refine ul_toIntSS _ ?_
  have e := s75_0 xs hl hx xs.length 0 (by omega)
  rw [filled_zero] at e
  have h0 : (0 : Int) ≤ (xs.length : Int) := by omega
  have hc : capB xs.length 24 = true := capB_le (by omega)
  simp only [Int.natCast_zero] at e
  simp only [List.length_map, Int.toNat_natCast, h0, Int.le_refl, hc, decide_true, Bool.and_self, cond_true]
  rw [show (AVal.own 1 []) = rowo [] from rfl, e]
  simp only [Option.bind_some]
theorem s78_0 (xs : List (List Int)) (hl : xs.length ≤ 1048576) (hx : ∀ x ∈ xs, x.length ≤ 1048576) : ∀ n i : Nat, i + n = xs.length → Ll_eqIntSS_0 (xs.map rowv) (xs.map rowv) (i : Int) = some (.inr ())
  | 0, i, h => by
    refine ll_eqIntSS_0 _ _ _ ?_
    simp [show ¬ i < xs.length by omega]
  | n + 1, i, h => by
    have hi : i < xs.length := by omega
    refine ll_eqIntSS_0 _ _ _ ?_
    have e1 : CT.shape (.slice 1) (rowv xs[i]) = true := rfl
    have e4 : (rowv xs[i]).elems = xs[i].map iv := rfl
    simp only [List.length_map, Int.toNat_natCast, dlt_true hi, d0_true, Bool.and_self, cond_true, cond_false, getD_map rowv hi, e1, e4, s24 xs[i] (hx _ (List.getElem_mem hi)), Option.bind_some, Bool.not_true, wrap_succ hi (by omega), s78_0 xs hl hx n (i + 1) (by omega)]
theorem s78 (xs : List (List Int)) (hl : xs.length ≤ 1048576) (hx : ∀ x ∈ xs, x.length ≤ 1048576) : Fl_eqIntSS (xs.map rowv) (xs.map rowv) = some true := by
  refine ul_eqIntSS _ _ ?_
  have e := s78_0 xs hl hx xs.length 0 (by omega)
  simp only [Int.natCast_zero] at e
  simp [e]
theorem s38 (c : List Int) (x : List (List Int)) (a : List Int) (hc : c.length ≤ 1048576) (hx : x.length ≤ 1048576) (hx2 : ∀ r ∈ x, r.length ≤ 1048576) (ha : a.length ≤ 1048576) : Fl_toDfa (c.map iv) (x.map rowv) (a.map iv) = some (c.map iv, x.map rowo, a.map iv) := by
  refine ul_toDfa _ _ _ ?_
  simp [s21 c hc, s21 a ha, s75 x hx hx2]
theorem s40 (c : List Int) (x : List (List Int)) (a : List Int) (hc : c.length ≤ 1048576) (hx : x.length ≤ 1048576) (hx2 : ∀ r ∈ x, r.length ≤ 1048576) (ha : a.length ≤ 1048576) : Fl_eqDfa (c.map iv) (x.map rowv) (a.map iv) (c.map iv) (x.map rowv) (a.map iv) = some true := by
  refine ul_eqDfa _ _ _ _ _ _ ?_
  simp [s24 c hc, s24 a ha, s78 x hx hx2]
/-! Is the machine right? -/
def inQ (lo hi n : Int) : Bool := decide (lo ≤ n) && decide (n ≤ hi)
def clsQ (n : Int) (c : List Int) : Nat → Nat → Bool
  | _, 0 => true
  | i, m + 1 => inQ 0 (n - 1) (c.getD i 0) && clsQ n c (i + 1) m
def cellsQ (len : Int) (r : List Int) : Nat → Nat → Bool
  | _, 0 => true
  | i, m + 1 => inQ (-1) (len - 1) (r.getD i 0) && cellsQ len r (i + 1) m
def rowQ (n : Nat) (len : Int) (r : List Int) (a : Int) : Bool := decide (r.length = n) && (decide (-1 ≤ a) && cellsQ len r 0 n)
def rowsQ (n : Nat) (x : List (List Int)) (a : List Int) : Nat → Nat → Bool
  | _, 0 => true
  | i, m + 1 => rowQ n x.length (x.getD i []) (a.getD i 0) && rowsQ n x a (i + 1) m
def dfaQ (c : List Int) (x : List (List Int)) (a : List Int) : Bool :=
  decide (c.length = 256) && (inQ 1 401 x.length && (decide (a.length = x.length) && (inQ 1 256 (x.getD 0 []).length && (clsQ (x.getD 0 []).length c 0 256 && rowsQ (x.getD 0 []).length x a 0 x.length))))
theorem e_int (x : Int) : CT.shape (.int .i64) (iv x) = true := rfl
theorem e_toInt (x : Int) : (iv x).toInt = x := rfl
theorem e_row (x : List Int) : CT.shape (.slice 1) (rowv x) = true := rfl
theorem e_elems (x : List Int) : (rowv x).elems = x.map iv := rfl
theorem s61' (n a b : Int) : Fs_l01Between n a b = some (inQ a b n) := s61 n a b
section
variable (c : List Int) (x : List (List Int)) (a : List Int)
theorem s74_0 (hc : c.length = 256) (n : Nat) (hn : n ≤ 256) (hn1 : 1 ≤ n) : ∀ m i : Nat, i + m = 256 → Ls_l02DfaOK_0 n (i : Int) (c.map iv) (x.map rowv) (a.map iv) = some (if clsQ n c i m then .inr ((n : Int), c.map iv, x.map rowv, a.map iv) else .inl false)
  | 0, i, h => by
    refine ls_l02DfaOK_0 _ _ _ _ _ ?_
    have : ¬ ((i : Int) < 256) := by omega
    simp [this, clsQ]
  | m + 1, i, h => by
    have hi : i < c.length := by omega
    have h2 : (i : Int) < 256 := by omega
    refine ls_l02DfaOK_0 _ _ _ _ _ ?_
    have ew : IntKind.wrap .i64 ((n : Int) - 1) = (n : Int) - 1 := wrap64 (by omega) (by omega)
    simp only [h2, decide_true, List.length_map, Int.toNat_natCast, dlt_true hi, d0_true, Bool.and_self, cond_true, getD_map' iv 0 hi, e_int, e_toInt, ew, s61', Option.bind_some, wrap_succ hi (by omega), s74_0 hc n hn hn1 m (i + 1) (by omega), clsQ]
    by_cases g : inQ 0 ((n : Int) - 1) (c.getD i 0) = true
    · simp only [g, Bool.not_true, cond_false, Bool.true_and]
    · simp only [Bool.eq_false_iff.2 g, Bool.not_false, cond_true, Bool.false_and, Bool.false_eq_true, if_false]
theorem s76_0 (hc : c.length = 256) (n : Nat) (hn : n ≤ 256) (hn1 : 1 ≤ n) : ∀ m i : Nat, i + m = 256 → Li_dfaOK_0 n (c.map iv) 256 (i : Int) (c.map iv) (x.map rowv) (a.map iv) = some (if clsQ n c i m then .inr ((n : Int), c.map iv, x.map rowv, a.map iv) else .inl false)
  | 0, i, h => by
    refine li_dfaOK_0 _ _ _ _ _ _ _ ?_
    have : ¬ ((i : Int) < 256) := by omega
    simp [this, clsQ]
  | m + 1, i, h => by
    have hi : i < c.length := by omega
    have h2 : (i : Int) < 256 := by omega
    refine li_dfaOK_0 _ _ _ _ _ _ _ ?_
    simp only [h2, decide_true, List.length_map, Int.toNat_natCast, dlt_true hi, d0_true, Bool.and_self, cond_true, getD_map' iv 0 hi, e_int, e_toInt, wrap_succ hi (by omega), s76_0 hc n hn hn1 m (i + 1) (by omega), clsQ]
    by_cases g1 : c.getD i 0 < 0
    · have : inQ 0 ((n : Int) - 1) (c.getD i 0) = false := by simp only [inQ, Bool.and_eq_false_iff, decide_eq_false_iff_not]; omega
      simp only [g1, this, decide_true, cond_true, Bool.false_and, Bool.false_eq_true, if_false]
    · by_cases g2 : (n : Int) ≤ c.getD i 0
      · have : inQ 0 ((n : Int) - 1) (c.getD i 0) = false := by simp only [inQ, Bool.and_eq_false_iff, decide_eq_false_iff_not]; omega
        simp only [g1, g2, this, decide_true, decide_false, cond_true, cond_false, Bool.false_and, Bool.false_eq_true, if_false]
      · have : inQ 0 ((n : Int) - 1) (c.getD i 0) = true := by simp only [inQ, Bool.and_eq_true, decide_eq_true_eq]; omega
        simp only [g1, g2, this, decide_false, cond_false, Bool.true_and]
theorem s74_2 (s n : Nat) (hx : x.length ≤ 401) (hx1 : 1 ≤ x.length) (hs : s < x.length) (hr : (x.getD s []).length = n) (hn : n ≤ 256) : ∀ m i : Nat, i + m = n →
    Ls_l02DfaOK_2 n (s : Int) (i : Int) (c.map iv) (x.map rowv) (a.map iv) = some (if cellsQ x.length (x.getD s []) i m then .inr ((n : Int), (s : Int), c.map iv, x.map rowv, a.map iv) else .inl false)
  | 0, i, h => by
    refine ls_l02DfaOK_2 _ _ _ _ _ _ ?_
    have : ¬ ((i : Int) < (n : Int)) := by omega
    simp [this, cellsQ]
  | m + 1, i, h => by
    have hi : i < (x.getD s []).length := by omega
    have h2 : (i : Int) < (n : Int) := by omega
    refine ls_l02DfaOK_2 _ _ _ _ _ _ ?_
    have ew : IntKind.wrap .i64 ((x.length : Int) - 1) = (x.length : Int) - 1 := wrap64 (by omega) (by omega)
    simp only [h2, decide_true, List.length_map, Int.toNat_natCast, dlt_true hs, dlt_true hi, d0_true, Bool.and_self, cond_true, getD_map' rowv [] hs, e_row, e_elems, getD_map' iv 0 hi, e_int, e_toInt, ew, s61', Option.bind_some, wrap_succ hi (by omega), s74_2 s n hx hx1 hs hr hn m (i + 1) (by omega), cellsQ]
    by_cases g : inQ (-1) ((x.length : Int) - 1) ((x.getD s []).getD i 0) = true
    · simp only [g, Bool.not_true, cond_false, Bool.true_and]
    · simp only [Bool.eq_false_iff.2 g, Bool.not_false, cond_true, Bool.false_and, Bool.false_eq_true, if_false]
theorem s76_2 (s n : Nat) (hx : x.length ≤ 401) (hx1 : 1 ≤ x.length) (hr : (x.getD s []).length = n) (hn : n ≤ 256) : ∀ m i : Nat, i + m = n →
    Li_dfaOK_2 n (x.map rowv) (x.length : Int) (s : Int) ((x.getD s []).map iv) (n : Int) (i : Int) (c.map iv) (x.map rowv) (a.map iv) = some (if cellsQ x.length (x.getD s []) i m then .inr ((n : Int), x.map rowv, (x.length : Int), (s : Int), c.map iv, x.map rowv, a.map iv) else .inl false)
  | 0, i, h => by
    refine li_dfaOK_2 _ _ _ _ _ _ _ _ _ _ ?_
    have : ¬ ((i : Int) < (n : Int)) := by omega
    simp [this, cellsQ]
  | m + 1, i, h => by
    have hi : i < (x.getD s []).length := by omega
    have h2 : (i : Int) < (n : Int) := by omega
    refine li_dfaOK_2 _ _ _ _ _ _ _ _ _ _ ?_
    simp only [h2, decide_true, List.length_map, Int.toNat_natCast, dlt_true hi, d0_true, Bool.and_self, cond_true, getD_map' iv 0 hi, e_int, e_toInt, wrap_succ hi (by omega), s76_2 s n hx hx1 hr hn m (i + 1) (by omega), cellsQ]
    by_cases g1 : (x.getD s []).getD i 0 < -1
    · have : inQ (-1) ((x.length : Int) - 1) ((x.getD s []).getD i 0) = false := by simp only [inQ, Bool.and_eq_false_iff, decide_eq_false_iff_not]; omega
      simp only [g1, this, decide_true, cond_true, Bool.false_and, Bool.false_eq_true, if_false]
    · by_cases g2 : (x.length : Int) ≤ (x.getD s []).getD i 0
      · have : inQ (-1) ((x.length : Int) - 1) ((x.getD s []).getD i 0) = false := by simp only [inQ, Bool.and_eq_false_iff, decide_eq_false_iff_not]; omega
        simp only [g1, g2, this, decide_true, decide_false, cond_true, cond_false, Bool.false_and, Bool.false_eq_true, if_false]
      · have : inQ (-1) ((x.length : Int) - 1) ((x.getD s []).getD i 0) = true := by simp only [inQ, Bool.and_eq_true, decide_eq_true_eq]; omega
        simp only [g1, g2, this, decide_false, cond_false, Bool.true_and]
theorem s74_1 (n : Nat) (hx : x.length ≤ 401) (hx1 : 1 ≤ x.length) (ha : a.length = x.length) (hn : n ≤ 256) : ∀ m i : Nat, i + m = x.length →
    Ls_l02DfaOK_1 n (i : Int) (c.map iv) (x.map rowv) (a.map iv) = some (if rowsQ n x a i m then .inr () else .inl false)
  | 0, i, h => by
    refine ls_l02DfaOK_1 _ _ _ _ _ ?_
    have : ¬ ((i : Int) < (x.length : Int)) := by omega
    simp [this, rowsQ]
  | m + 1, i, h => by
    have hi : i < x.length := by omega
    have hi2 : i < a.length := by omega
    refine ls_l02DfaOK_1 _ _ _ _ _ ?_
    simp only [List.length_map, Int.toNat_natCast, dlt_true hi, dlt_true hi2, d0_true, Bool.and_self, cond_true, getD_map' rowv [] hi, e_row, e_elems, getD_map' iv 0 hi2, e_int, e_toInt, rowsQ, rowQ]
    by_cases g1 : (x.getD i []).length = n
    · have g1' : (((x.getD i []).length : Nat) : Int) = (n : Int) := by omega
      by_cases g2 : a.getD i 0 < -1
      · have : ¬ (-1 ≤ a.getD i 0) := by omega
        simp only [g1, g1', g2, this, decide_true, decide_false, Bool.not_true, cond_true, cond_false, Bool.false_and, Bool.and_false, Bool.false_eq_true, if_false]
      · have q2 : -1 ≤ a.getD i 0 := by omega
        have e := s74_2 c x a i n hx hx1 hi g1 hn n 0 (by omega)
        simp only [Int.natCast_zero] at e
        by_cases g3 : cellsQ x.length (x.getD i []) 0 n = true
        · simp only [g1', g1, g2, q2, e, g3, decide_true, decide_false, Bool.not_true, cond_false, if_true, Option.bind_some, Sum.elim_inr, Bool.and_self, Bool.true_and, wrap_succ hi (by omega), s74_1 n hx hx1 ha hn m (i + 1) (by omega)]
        · simp only [g1', g1, g2, q2, e, Bool.eq_false_iff.2 g3, decide_true, decide_false, Bool.not_true, cond_false, Option.bind_some, Sum.elim_inl, Bool.and_self, Bool.and_false, Bool.false_and, Bool.false_eq_true, if_false]
    · have g1' : ¬ (((x.getD i []).length : Nat) : Int) = (n : Int) := by omega
      simp only [g1, g1', decide_false, Bool.not_false, cond_true, Bool.false_and]; rfl
theorem s76_1 (n : Nat) (hx : x.length ≤ 401) (hx1 : 1 ≤ x.length) (ha : a.length = x.length) (hn : n ≤ 256) : ∀ m i : Nat, i + m = x.length →
    Li_dfaOK_1 n (x.map rowv) (x.length : Int) (i : Int) (c.map iv) (x.map rowv) (a.map iv) = some (if rowsQ n x a i m then .inr () else .inl false)
  | 0, i, h => by
    refine li_dfaOK_1 _ _ _ _ _ _ _ ?_
    have : ¬ ((i : Int) < (x.length : Int)) := by omega
    simp [this, rowsQ]
  | m + 1, i, h => by
    have hi : i < x.length := by omega
    have hi2 : i < a.length := by omega
    refine li_dfaOK_1 _ _ _ _ _ _ _ ?_
    simp only [List.length_map, Int.toNat_natCast, dlt_true hi, dlt_true hi2, d0_true, Bool.and_self, cond_true, getD_map' rowv [] hi, e_row, e_elems, getD_map' iv 0 hi2, e_int, e_toInt, rowsQ, rowQ]
    by_cases g1 : (x.getD i []).length = n
    · have g1' : (((x.getD i []).length : Nat) : Int) = (n : Int) := by omega
      by_cases g2 : a.getD i 0 < -1
      · have : ¬ (-1 ≤ a.getD i 0) := by omega
        simp only [g1, g1', g2, this, decide_true, decide_false, Bool.not_true, cond_true, cond_false, Bool.false_and, Bool.and_false, Bool.false_eq_true, if_false]
      · have q2 : -1 ≤ a.getD i 0 := by omega
        have e := s76_2 c x a i n hx hx1 g1 hn n 0 (by omega)
        simp only [Int.natCast_zero] at e
        by_cases g3 : cellsQ x.length (x.getD i []) 0 n = true
        · simp only [g1, g2, q2, e, g3, decide_true, decide_false, Bool.not_true, cond_false, if_true, Option.bind_some, Sum.elim_inr, Bool.and_self, Bool.true_and, wrap_succ hi (by omega), s76_1 n hx hx1 ha hn m (i + 1) (by omega)]
        · simp only [g1', g1, g2, q2, e, Bool.eq_false_iff.2 g3, decide_true, decide_false, Bool.not_true, cond_false, Option.bind_some, Sum.elim_inl, Bool.and_self, Bool.and_false, Bool.false_and, Bool.false_eq_true, if_false]
    · have g1' : ¬ (((x.getD i []).length : Nat) : Int) = (n : Int) := by omega
      simp only [g1, g1', decide_false, Bool.not_false, cond_true, Bool.false_and]; rfl
end
theorem s74 (c : List Int) (x : List (List Int)) (a : List Int) : Fs_l02DfaOK (c.map iv) (x.map rowv) (a.map iv) = some (dfaQ c x a) := by
  refine us_l02DfaOK _ _ _ ?_
  unfold dfaQ
  simp only [List.length_map, s61']
  by_cases g1 : c.length = 256
  · have q1 : (c.length : Int) = 256 := by omega
    by_cases g2 : inQ 1 401 x.length = true
    · have w2 : 1 ≤ x.length ∧ x.length ≤ 401 := by
        simp only [inQ, Bool.and_eq_true, decide_eq_true_eq] at g2; omega
      by_cases g3 : a.length = x.length
      · have q3 : (a.length : Int) = (x.length : Int) := by omega
        have q4 : (0 : Int) < (x.length : Int) := by omega
        have q5 : 0 < x.length := by omega
        by_cases g6 : inQ 1 256 (x.getD 0 []).length = true
        · have w6 : 1 ≤ (x.getD 0 []).length ∧ (x.getD 0 []).length ≤ 256 := by
            simp only [inQ, Bool.and_eq_true, decide_eq_true_eq] at g6; omega
          have e1 := s74_0 c x a g1 (x.getD 0 []).length w6.2 w6.1 256 0 (by omega)
          have e2 := s74_1 c x a (x.getD 0 []).length w2.2 w2.1 g3 w6.2 x.length 0 (by omega)
          simp only [Int.natCast_zero] at e1 e2
          simp only [q1, g1, Int.cast_ofNat_Int, g2, q3, g3, q4, getD_map' rowv [] q5, e_row, e_elems, List.length_map, g6, e1, decide_true, Bool.not_true, cond_true, cond_false, Option.bind_some, Bool.true_and]
          by_cases g7 : clsQ (x.getD 0 []).length c 0 256 = true
          · simp only [g7, if_true, Option.bind_some, Sum.elim_inr, e2, Bool.true_and]
            by_cases g8 : rowsQ (x.getD 0 []).length x a 0 x.length = true
            · simp only [g8, if_true, Option.bind_some, Sum.elim_inr]
            · simp only [Bool.eq_false_iff.2 g8, Bool.false_eq_true, if_false, Option.bind_some, Sum.elim_inl]
          · simp only [Bool.eq_false_iff.2 g7, Bool.false_eq_true, if_false, Option.bind_some, Sum.elim_inl, Bool.false_and]
        · simp only [q1, g1, Int.cast_ofNat_Int, g2, q3, g3, q4, getD_map' rowv [] q5, e_row, e_elems, List.length_map, Bool.eq_false_iff.2 g6, decide_true, Bool.not_true, Bool.not_false, cond_true, cond_false, Option.bind_some, Bool.false_and, Bool.and_false]
      · have q3 : ¬ (a.length : Int) = (x.length : Int) := by omega
        simp only [q1, g1, Int.cast_ofNat_Int, g2, q3, g3, decide_true, decide_false, Bool.not_true, Bool.not_false, cond_true, cond_false, Option.bind_some, Bool.false_and, Bool.and_false]
    · simp only [q1, g1, Int.cast_ofNat_Int, Bool.eq_false_iff.2 g2, decide_true, Bool.not_true, Bool.not_false, cond_true, cond_false, Option.bind_some, Bool.false_and, Bool.and_false]
  · have q1 : ¬ (c.length : Int) = 256 := by omega
    simp only [q1, g1, Int.cast_ofNat_Int, decide_false, Bool.not_false, cond_true, Bool.false_and]
theorem s76 (c : List Int) (x : List (List Int)) (a : List Int) : Fi_dfaOK (c.map iv) (x.map rowv) (a.map iv) = some (dfaQ c x a) := by
  refine ui_dfaOK _ _ _ ?_
  unfold dfaQ
  simp only [List.length_map]
  by_cases g1 : c.length = 256
  · have q1 : (c.length : Int) = 256 := by omega
    by_cases g2 : x.length < 1
    · have w2 : (x.length : Int) < 1 := by omega
      have w3 : inQ 1 401 x.length = false := by simp only [inQ, Bool.and_eq_false_iff, decide_eq_false_iff_not]; omega
      simp only [q1, w2, w3, decide_true, Bool.not_true, cond_true, cond_false, Bool.false_and, Bool.and_false]
    by_cases g2' : 401 < x.length
    · have w1 : ¬ (x.length : Int) < 1 := by omega
      have w2 : (401 : Int) < x.length := by omega
      have w3 : inQ 1 401 x.length = false := by simp only [inQ, Bool.and_eq_false_iff, decide_eq_false_iff_not]; omega
      simp only [q1, w1, w2, w3, decide_true, decide_false, Bool.not_true, cond_true, cond_false, Bool.false_and, Bool.and_false]
    have w1 : ¬ (x.length : Int) < 1 := by omega
    have w2 : ¬ (401 : Int) < x.length := by omega
    have w3 : inQ 1 401 x.length = true := by simp only [inQ, Bool.and_eq_true, decide_eq_true_eq]; omega
    by_cases g3 : a.length = x.length
    · have q3 : (a.length : Int) = (x.length : Int) := by omega
      have q4 : (0 : Int) < (x.length : Int) := by omega
      have q5 : 0 < x.length := by omega
      by_cases g4 : (x.getD 0 []).length < 1
      · have v1 : ((x.getD 0 []).length : Int) < 1 := by omega
        have v2 : inQ 1 256 (x.getD 0 []).length = false := by simp only [inQ, Bool.and_eq_false_iff, decide_eq_false_iff_not]; omega
        simp only [q1, w1, w2, w3, q3, q4, getD_map' rowv [] q5, e_row, e_elems, List.length_map, v1, v2, decide_true, decide_false, Bool.not_true, cond_true, cond_false, Bool.false_and, Bool.and_false]
      by_cases g5 : 256 < (x.getD 0 []).length
      · have v1 : ¬ ((x.getD 0 []).length : Int) < 1 := by omega
        have v3 : (256 : Int) < ((x.getD 0 []).length : Int) := by omega
        have v2 : inQ 1 256 (x.getD 0 []).length = false := by simp only [inQ, Bool.and_eq_false_iff, decide_eq_false_iff_not]; omega
        simp only [q1, w1, w2, w3, q3, q4, getD_map' rowv [] q5, e_row, e_elems, List.length_map, v1, v2, v3, decide_true, decide_false, Bool.not_true, cond_true, cond_false, Bool.false_and, Bool.and_false]
      have v1 : ¬ ((x.getD 0 []).length : Int) < 1 := by omega
      have v3 : ¬ (256 : Int) < ((x.getD 0 []).length : Int) := by omega
      have v2 : inQ 1 256 (x.getD 0 []).length = true := by simp only [inQ, Bool.and_eq_true, decide_eq_true_eq]; omega
      have e1 := s76_0 c x a g1 (x.getD 0 []).length (by omega) (by omega) 256 0 (by omega)
      have e2 := s76_1 c x a (x.getD 0 []).length (by omega) (by omega) g3 (by omega) x.length 0 (by omega)
      simp only [Int.natCast_zero] at e1 e2
      simp only [q1, g1, Int.cast_ofNat_Int, w1, w2, w3, q3, g3, q4, getD_map' rowv [] q5, e_row, e_elems, List.length_map, v1, v2, v3, e1, decide_true, decide_false, Bool.not_true, cond_true, cond_false, Bool.true_and]
      by_cases g7 : clsQ (x.getD 0 []).length c 0 256 = true
      · simp only [g7, if_true, Option.bind_some, Sum.elim_inr, List.length_map, e2, Bool.true_and]
        by_cases g8 : rowsQ (x.getD 0 []).length x a 0 x.length = true
        · simp only [g8, if_true, Option.bind_some, Sum.elim_inr]
        · simp only [Bool.eq_false_iff.2 g8, Bool.false_eq_true, if_false, Option.bind_some, Sum.elim_inl]
      · simp only [Bool.eq_false_iff.2 g7, Bool.false_eq_true, if_false, Option.bind_some, Sum.elim_inl, Bool.false_and]
    · have q3 : ¬ (a.length : Int) = (x.length : Int) := by omega
      simp only [q1, w1, w2, w3, q3, g3, decide_true, decide_false, Bool.not_true, Bool.not_false, cond_true, cond_false, Bool.false_and, Bool.and_false]
  · have q1 : ¬ (c.length : Int) = 256 := by omega
    simp only [q1, g1, Int.cast_ofNat_Int, decide_false, Bool.not_false, cond_true, Bool.false_and]
/-! The run -/
theorem byte_lt (s : ByteArray) (i : Nat) : 0 ≤ byteAt s i ∧ byteAt s i < 256 := by
  unfold byteAt
  split
  · rename_i h
    have := (s[i]'h).toNat_lt
    omega
  · omega
theorem clsQ_get {n : Int} {c : List Int} : ∀ {m i : Nat}, clsQ n c i m = true → ∀ j, i ≤ j → j < i + m → inQ 0 (n - 1) (c.getD j 0) = true
  | 0, i, _, j, h1, h2 => by omega
  | m + 1, i, h, j, h1, h2 => by
    simp only [clsQ, Bool.and_eq_true] at h
    by_cases g : j = i
    · subst g; exact h.1
    · exact clsQ_get h.2 j (by omega) (by omega)
theorem cellsQ_get {n : Int} {c : List Int} : ∀ {m i : Nat}, cellsQ n c i m = true → ∀ j, i ≤ j → j < i + m → inQ (-1) (n - 1) (c.getD j 0) = true
  | 0, i, _, j, h1, h2 => by omega
  | m + 1, i, h, j, h1, h2 => by
    simp only [cellsQ, Bool.and_eq_true] at h
    by_cases g : j = i
    · subst g; exact h.1
    · exact cellsQ_get h.2 j (by omega) (by omega)
theorem rowsQ_get {n : Nat} {x : List (List Int)} {a : List Int} : ∀ {m i : Nat}, rowsQ n x a i m = true → ∀ j, i ≤ j → j < i + m → rowQ n x.length (x.getD j []) (a.getD j 0) = true
  | 0, i, _, j, h1, h2 => by omega
  | m + 1, i, h, j, h1, h2 => by
    simp only [rowsQ, Bool.and_eq_true] at h
    by_cases g : j = i
    · subst g; exact h.1
    · exact rowsQ_get h.2 j (by omega) (by omega)
structure DfaF (c : List Int) (x : List (List Int)) (a : List Int) : Prop where
  c1 : c.length = 256
  x1 : 1 ≤ x.length
  a1 : a.length = x.length
  cl : ∀ b : Nat, b < 256 → 0 ≤ c.getD b 0 ∧ c.getD b 0 < (x.getD 0 []).length
  rw : ∀ s : Nat, s < x.length → (x.getD s []).length = (x.getD 0 []).length
  ce : ∀ s k : Nat, s < x.length → k < (x.getD 0 []).length → (x.getD s []).getD k 0 < x.length
theorem dfaF_of {c : List Int} {x : List (List Int)} {a : List Int} (h : dfaQ c x a = true) : DfaF c x a := by
  simp only [dfaQ, Bool.and_eq_true, decide_eq_true_eq] at h
  obtain ⟨h1, h2, h3, h4, h5, h6⟩ := h
  have w2 : 1 ≤ x.length := by simp only [inQ, Bool.and_eq_true, decide_eq_true_eq] at h2; omega
  refine ⟨h1, w2, h3, fun b hb => ?_, fun s hs => ?_, fun s k hs hk => ?_⟩
  · have := clsQ_get h5 b (by omega) (by omega)
    simp only [inQ, Bool.and_eq_true, decide_eq_true_eq] at this
    omega
  · have := rowsQ_get h6 s (by omega) (by omega)
    simp only [rowQ, Bool.and_eq_true, decide_eq_true_eq] at this
    exact this.1
  · have := rowsQ_get h6 s (by omega) (by omega)
    simp only [rowQ, Bool.and_eq_true, decide_eq_true_eq] at this
    have := cellsQ_get this.2.2 k (by omega) (by omega)
    simp only [inQ, Bool.and_eq_true, decide_eq_true_eq] at this
    omega
/-- what a run gives -/
def runV (c : List Int) (x : List (List Int)) (a : List Int) (s : ByteArray) (fr : Int) : Nat → Nat → Nat → Int → Int → (Int × Int × Int) ⊕ (Int × Int)
  | 0, _, _, ln, wh => .inr (ln, wh)
  | m + 1, at_, st, ln, wh =>
    let t := (x.getD st []).getD (c.getD (byteAt s at_).toNat 0).toNat 0
    if t < 0 then .inl (ln, wh, (at_ : Int) + 1)
    else if 0 ≤ a.getD t.toNat 0 then runV c x a s fr m (at_ + 1) t.toNat ((at_ : Int) + 1 - fr) (a.getD t.toNat 0)
    else runV c x a s fr m (at_ + 1) t.toNat ln wh
theorem inB_int {i : Int} {n : Nat} (h1 : 0 ≤ i) (h2 : i < n) : decide (0 ≤ i) = true ∧ decide (i < (n : Int)) = true := by simp [h1, h2]
section
variable {c : List Int} {x : List (List Int)} {a : List Int} (hF : DfaF c x a) (s : ByteArray) (hs : s.size ≤ 4000) (fr : Int) (h0 : 0 ≤ fr) (h1 : fr ≤ s.size)
include hF hs h0 h1
theorem s37_0 : ∀ (m at_ st : Nat) (ln wh : Int), at_ + m = s.size → st < x.length → Ls_DfaRun_0 s fr ln wh st at_ (c.map iv) (x.map rowv) (a.map iv) = some (match runV c x a s fr m at_ st ln wh with | .inl (p, q, r) => .inl (p, q, r, 0) | .inr (p, q) => .inr (s, p, q))
  | 0, at_, st, ln, wh, hm, hst => by
    refine ls_DfaRun_0 _ _ _ _ _ _ _ _ _ ?_
    have : ¬ at_ < s.size := by omega
    simp [this, runV]
  | m + 1, at_, st, ln, wh, hm, hst => by
    have hat : at_ < s.size := by omega
    obtain ⟨b1, b2⟩ := byte_lt s at_
    obtain ⟨k1, k2⟩ := hF.cl (byteAt s at_).toNat (by omega)
    have r1 := hF.rw st hst
    have r2 := hF.ce st (c.getD (byteAt s at_).toNat 0).toNat hst (by omega)
    obtain ⟨d1, d2⟩ := inB_int (n := c.length) b1 (by have := hF.c1; omega)
    obtain ⟨d3, d4⟩ := inB_int (n := (x.getD st []).length) k1 (by omega)
    have hb : (byteAt s at_).toNat < c.length := by have := hF.c1; omega
    have hk : (c.getD (byteAt s at_).toNat 0).toNat < (x.getD st []).length := by omega
    refine ls_DfaRun_0 _ _ _ _ _ _ _ _ _ ?_
    simp only [Int.toNat_natCast, List.length_map, dlt_true hat, dlt_true hst, d0_true, Bool.and_self, cond_true, getD_map' rowv [] hst, e_row, e_elems, d1, d2, getD_map' iv 0 hb, e_int, e_toInt, d3, d4, getD_map' iv 0 hk, wrap_succ hat (by omega), runV]
    by_cases g1 : (x.getD st []).getD (c.getD (byteAt s at_).toNat 0).toNat 0 < 0
    · simp only [g1, decide_true, cond_true, if_true, Int.natCast_add, Int.natCast_one]
    · have ht : ((x.getD st []).getD (c.getD (byteAt s at_).toNat 0).toNat 0).toNat < a.length := by have := hF.a1; omega
      obtain ⟨d5, d6⟩ := inB_int (n := a.length) (by omega : 0 ≤ (x.getD st []).getD (c.getD (byteAt s at_).toNat 0).toNat 0) (by omega)
      have et : (((x.getD st []).getD (c.getD (byteAt s at_).toNat 0).toNat 0).toNat : Int) = (x.getD st []).getD (c.getD (byteAt s at_).toNat 0).toNat 0 := by omega
      have ew : IntKind.wrap .i64 (((at_ + 1 : Nat) : Int) - fr) = (at_ : Int) + 1 - fr := by rw [wrap64 (by omega) (by omega)]; omega
      simp only [g1, decide_false, cond_false, if_false, d5, d6, Bool.and_self, cond_true, getD_map' iv 0 ht, e_int, e_toInt, ew]
      by_cases g2 : 0 ≤ a.getD ((x.getD st []).getD (c.getD (byteAt s at_).toNat 0).toNat 0).toNat 0
      · have ih := s37_0 m (at_ + 1) ((x.getD st []).getD (c.getD (byteAt s at_).toNat 0).toNat 0).toNat ((at_ : Int) + 1 - fr) (a.getD ((x.getD st []).getD (c.getD (byteAt s at_).toNat 0).toNat 0).toNat 0) (by omega) (by omega)
        rw [et] at ih
        simp only [g2, decide_true, cond_true, if_true]
        exact ih
      · have ih := s37_0 m (at_ + 1) ((x.getD st []).getD (c.getD (byteAt s at_).toNat 0).toNat 0).toNat ln wh (by omega) (by omega)
        rw [et] at ih
        simp only [g2, decide_false, cond_false, if_false]
        exact ih
theorem s77_0 : ∀ (m at_ st : Nat) (ln wh : Int), at_ + m = s.size → st < x.length → Li_run_0 s fr ln wh st at_ (c.map iv) (x.map rowv) (a.map iv) = some (match runV c x a s fr m at_ st ln wh with | .inl (p, q, r) => .inl (p, q, r) | .inr (p, q) => .inr (s, p, q))
  | 0, at_, st, ln, wh, hm, hst => by
    refine li_run_0 _ _ _ _ _ _ _ _ _ ?_
    have : ¬ at_ < s.size := by omega
    simp [this, runV]
  | m + 1, at_, st, ln, wh, hm, hst => by
    have hat : at_ < s.size := by omega
    obtain ⟨b1, b2⟩ := byte_lt s at_
    obtain ⟨k1, k2⟩ := hF.cl (byteAt s at_).toNat (by omega)
    have r1 := hF.rw st hst
    have r2 := hF.ce st (c.getD (byteAt s at_).toNat 0).toNat hst (by omega)
    obtain ⟨d1, d2⟩ := inB_int (n := c.length) b1 (by have := hF.c1; omega)
    obtain ⟨d3, d4⟩ := inB_int (n := (x.getD st []).length) k1 (by omega)
    have hb : (byteAt s at_).toNat < c.length := by have := hF.c1; omega
    have hk : (c.getD (byteAt s at_).toNat 0).toNat < (x.getD st []).length := by omega
    refine li_run_0 _ _ _ _ _ _ _ _ _ ?_
    simp only [Int.toNat_natCast, List.length_map, dlt_true hat, dlt_true hst, d0_true, Bool.and_self, cond_true, getD_map' rowv [] hst, e_row, e_elems, d1, d2, getD_map' iv 0 hb, e_int, e_toInt, d3, d4, getD_map' iv 0 hk, wrap_succ hat (by omega), runV]
    by_cases g1 : (x.getD st []).getD (c.getD (byteAt s at_).toNat 0).toNat 0 < 0
    · simp only [g1, decide_true, cond_true, if_true, Int.natCast_add, Int.natCast_one]
    · have ht : ((x.getD st []).getD (c.getD (byteAt s at_).toNat 0).toNat 0).toNat < a.length := by have := hF.a1; omega
      obtain ⟨d5, d6⟩ := inB_int (n := a.length) (by omega : 0 ≤ (x.getD st []).getD (c.getD (byteAt s at_).toNat 0).toNat 0) (by omega)
      have et : (((x.getD st []).getD (c.getD (byteAt s at_).toNat 0).toNat 0).toNat : Int) = (x.getD st []).getD (c.getD (byteAt s at_).toNat 0).toNat 0 := by omega
      have ew : IntKind.wrap .i64 (((at_ + 1 : Nat) : Int) - fr) = (at_ : Int) + 1 - fr := by rw [wrap64 (by omega) (by omega)]; omega
      simp only [g1, decide_false, cond_false, if_false, d5, d6, Bool.and_self, cond_true, getD_map' iv 0 ht, e_int, e_toInt, ew]
      by_cases g2 : 0 ≤ a.getD ((x.getD st []).getD (c.getD (byteAt s at_).toNat 0).toNat 0).toNat 0
      · have ih := s77_0 m (at_ + 1) ((x.getD st []).getD (c.getD (byteAt s at_).toNat 0).toNat 0).toNat ((at_ : Int) + 1 - fr) (a.getD ((x.getD st []).getD (c.getD (byteAt s at_).toNat 0).toNat 0).toNat 0) (by omega) (by omega)
        rw [et] at ih
        simp only [g2, decide_true, cond_true, if_true]
        exact ih
      · have ih := s77_0 m (at_ + 1) ((x.getD st []).getD (c.getD (byteAt s at_).toNat 0).toNat 0).toNat ln wh (by omega) (by omega)
        rw [et] at ih
        simp only [g2, decide_false, cond_false, if_false]
        exact ih
end
theorem s37 (c : List Int) (x : List (List Int)) (a : List Int) (s : ByteArray) (fr : Int) : ∃ v, Fs_DfaRun (c.map iv) (x.map rowv) (a.map iv) s fr = some v ∧ Fi_DfaRun (c.map iv) (x.map rowv) (a.map iv) s fr = some v := by
  by_cases g1 : dfaQ c x a = true
  · have hF := dfaF_of g1
    by_cases g2 : (4000 : Int) < s.size
    · refine ⟨(0, 0, 0, 1), us_DfaRun _ _ _ _ _ ?_, ui_DfaRun _ _ _ _ _ ?_⟩
      · simp only [s74, g1, Option.bind_some, Bool.not_true, cond_false, g2, decide_true, cond_true]
      · simp only [s76, g1, Option.bind_some, Bool.not_true, cond_false, g2, decide_true, cond_true]
    · by_cases g3 : 0 ≤ fr ∧ fr ≤ (s.size : Int)
      · have q0 : 0 < a.length := by have := hF.a1; have := hF.x1; omega
        have q1 : (0 : Int) < a.length := by omega
        have q2 : inQ 0 s.size fr = true := by simpa [inQ] using g3
        have q3 : ¬ fr < 0 := by omega
        have q4 : ¬ (s.size : Int) < fr := by omega
        obtain ⟨n, hn⟩ : ∃ n : Nat, fr = n := ⟨fr.toNat, by omega⟩
        have ew : IntKind.wrap .i64 ((s.size : Int) + 1) = (s.size : Int) + 1 := wrap64 (by omega) (by omega)
        have e1 := s37_0 hF s (by omega) fr g3.1 g3.2 (s.size - n) n 0 0 (a.getD 0 0) (by omega) (by have := hF.x1; omega)
        have e2 := s77_0 hF s (by omega) fr g3.1 g3.2 (s.size - n) n 0 0 (a.getD 0 0) (by omega) (by have := hF.x1; omega)
        rw [← hn] at e1 e2
        simp only [Int.natCast_zero] at e1 e2
        cases hr : runV c x a s fr (s.size - n) n 0 0 (a.getD 0 0) with
        | inl r =>
          obtain ⟨p, q, r⟩ := r
          simp only [hr] at e1 e2
          refine ⟨(p, q, r, 0), us_DfaRun _ _ _ _ _ ?_, ui_DfaRun _ _ _ _ _ ?_⟩
          · simp only [s74, g1, g2, s61', q1, q2, List.length_map, getD_map' iv 0 q0, e_int, e_toInt, e1, Option.bind_some, Bool.not_true, cond_false, decide_false, decide_true, cond_true, Sum.elim_inl]
          · have e3 : Fi_run (c.map iv) (x.map rowv) (a.map iv) s fr = some (p, q, r) := ui_run _ _ _ _ _ (by simp only [q1, List.length_map, getD_map' iv 0 q0, e_int, e_toInt, e2, Option.bind_some, decide_true, cond_true, Sum.elim_inl])
            simp only [s76, g1, g2, q3, q4, e3, Option.bind_some, Bool.not_true, cond_false, decide_false]
        | inr r =>
          obtain ⟨p, q⟩ := r
          simp only [hr] at e1 e2
          refine ⟨(p, q, (s.size : Int) + 1, 0), us_DfaRun _ _ _ _ _ ?_, ui_DfaRun _ _ _ _ _ ?_⟩
          · simp only [s74, g1, g2, s61', q1, q2, List.length_map, getD_map' iv 0 q0, e_int, e_toInt, e1, ew, Option.bind_some, Bool.not_true, cond_false, decide_false, decide_true, cond_true, Sum.elim_inr]
          · have e3 : Fi_run (c.map iv) (x.map rowv) (a.map iv) s fr = some (p, q, (s.size : Int) + 1) := ui_run _ _ _ _ _ (by simp only [q1, List.length_map, getD_map' iv 0 q0, e_int, e_toInt, e2, ew, Option.bind_some, decide_true, cond_true, Sum.elim_inr])
            simp only [s76, g1, g2, q3, q4, e3, Option.bind_some, Bool.not_true, cond_false, decide_false]
      · refine ⟨(0, 0, 0, 1), us_DfaRun _ _ _ _ _ ?_, ui_DfaRun _ _ _ _ _ ?_⟩
        · have q2 : inQ 0 s.size fr = false := by simp only [inQ, Bool.and_eq_false_iff, decide_eq_false_iff_not]; omega
          simp only [s74, g1, g2, s61', q2, Option.bind_some, Bool.not_true, Bool.not_false, cond_false, cond_true, decide_false]
        · by_cases q : fr < 0
          · simp only [s76, g1, g2, q, Option.bind_some, Bool.not_true, cond_false, decide_false, decide_true, cond_true]
          · have q4 : (s.size : Int) < fr := by omega
            simp only [s76, g1, g2, q, q4, Option.bind_some, Bool.not_true, cond_false, decide_false, decide_true, cond_true]
  · refine ⟨(0, 0, 0, 1), us_DfaRun _ _ _ _ _ ?_, ui_DfaRun _ _ _ _ _ ?_⟩
    · simp only [s74, Bool.eq_false_iff.2 g1, Option.bind_some, Bool.not_false, cond_true]
    · simp only [s76, Bool.eq_false_iff.2 g1, Option.bind_some, Bool.not_false, cond_true]
theorem tot_le : ∀ {x : List (List Int)} {r : List Int}, r ∈ x → r.length ≤ tot x
  | [], r, h => by simp at h
  | y :: x, r, h => by
    simp only [List.mem_cons] at h
    simp only [tot]
    rcases h with rfl | h
    · omega
    · have := tot_le h; omega
theorem law8 (c : List Int) (x : List (List Int)) (a : List Int) (s : ByteArray) (fr : Int) (hc : c.length ≤ maxLen) (hx : x.length ≤ maxLen) (hx2 : ∀ r ∈ x, r.length ≤ maxLen) (ha : a.length ≤ maxLen) : Fl_FnExactDfaRun (c.map iv) (x.map rowv) (a.map iv) s fr = some true := by
  refine ul_FnExactDfaRun _ _ _ _ _ ?_
  by_cases g1 : (1048576 : Int) < s.size
  · simp only [g1, decide_true, cond_true]
  simp only [g1, decide_false, cond_false, s36 c x a hc hx hx2 ha, Option.bind_some]
  by_cases g : szR 1048576 (c.length + ((x.length + tot x) + a.length)) < 0
  · simp only [g, decide_true, cond_true]
  · have hs := szR_nn g
    have h1 : c.length ≤ 1048576 := by omega
    have h2 : x.length ≤ 1048576 := by omega
    have h3 : ∀ r ∈ x, r.length ≤ 1048576 := fun r hr => by have := tot_le hr; omega
    have h4 : a.length ≤ 1048576 := by omega
    obtain ⟨v, e1, e2⟩ := s37 c x a s fr
    simp only [g, decide_false, cond_false, s38 c x a h1 h2 h3 h4, asRoL_map asRo_iv, asRoL_rowo, Option.bind_some, e1, e2, decide_true, Bool.not_true, s40 c x a h1 h2 h3 h4]
theorem rows_of : ∀ {xs : List AVal}, (∀ y ∈ xs, Fits ctx ty_S_int y) → ∃ ns : List (List Int), xs = ns.map rowv ∧ ∀ r ∈ ns, r.length ≤ maxLen
  | [], _ => ⟨[], rfl, by simp⟩
  | y :: ys, h => by
    obtain ⟨xs, rfl, w, w1⟩ := (h y (by simp)).slice' (sz := 1) (e := ty_int) (by kernel_rfl)
    obtain ⟨ns, rfl⟩ := ints_of w1
    obtain ⟨nss, rfl, hn⟩ := rows_of (xs := ys) fun z hz => h z (by simp [hz])
    rw [List.length_map] at w
    exact ⟨ns :: nss, rfl, by simpa using ⟨w, hn⟩⟩
theorem lawDfaRun : ∀ xs, FitsL ctx [ty_laws_Dfa, ty_string, ty_int] xs → ∃ k, vcall ctx k n_l_FnExactDfaRun xs [] = some ([.bool true], []) := by
  intro xs h
  obtain ⟨x, r, rfl, h1, h⟩ := h.cons'
  obtain ⟨y, r, rfl, h2, h⟩ := h.cons'
  obtain ⟨z, r, rfl, h3, h⟩ := h.cons'
  obtain rfl := h.nil'
  obtain ⟨fs, rfl, g⟩ := h1.struct' (us := [ty_S_int, ty_S_S_int, ty_S_int]) (by kernel_rfl)
  obtain ⟨p, r, rfl, g1, g⟩ := g.cons'
  obtain ⟨q, r, rfl, g2, g⟩ := g.cons'
  obtain ⟨t, r, rfl, g3, g⟩ := g.cons'
  obtain rfl := g.nil'
  obtain ⟨cs, rfl, w1, v1⟩ := g1.slice' (sz := 1) (e := ty_int) (by kernel_rfl)
  obtain ⟨xs, rfl, w2, v2⟩ := g2.slice' (sz := 1) (e := ty_S_int) (by kernel_rfl)
  obtain ⟨as_, rfl, w3, v3⟩ := g3.slice' (sz := 1) (e := ty_int) (by kernel_rfl)
  obtain ⟨c, rfl⟩ := ints_of v1
  obtain ⟨x, rfl, hx⟩ := rows_of v2
  obtain ⟨a, rfl⟩ := ints_of v3
  obtain ⟨s, rfl, _⟩ := h2.str' (by kernel_rfl)
  obtain ⟨n, rfl, _⟩ := h3.int' (k := .i64) (by kernel_rfl)
  rw [List.length_map] at w1 w2 w3
  exact law_of (S := sgl_FnExactDfaRun) (a := (c.map iv, x.map rowv, a.map iv, s, n)) (law8 c x a s n w1 w2 hx w3) rfl rfl
end Go.Proofs.Ytlaalinfmhiehaa
