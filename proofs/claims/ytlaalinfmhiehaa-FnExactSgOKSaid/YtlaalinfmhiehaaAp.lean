/- The law Apply answers true at all plain arguments; no condition. -/
import Derived.Test.YtlaalinfmhiehaaTApply
import Derived.Test.YtlaalinfmhiehaaUt
import Derived.Test.YtlaalinfmhiehaaEd
namespace Go.Proofs.Ytlaalinfmhiehaa
open Go.VK AVal
theorem s21_0 (xs : List Int) (hl : xs.length ≤ 1048576) : ∀ n i : Nat, i + n = xs.length → Ll_toIntS_0 (xs.map iv) (i : Int) (filled iv (iv 0) xs i) = some (xs.map iv)
  | 0, i, h => by
    refine ll_toIntS_0 _ _ _ ?_
    obtain rfl : i = xs.length := by omega
    simp [filled_all]
  | n + 1, i, h => by
    have hi : i < xs.length := by omega
    refine ll_toIntS_0 _ _ _ ?_
    have e1 : CT.shape (.int .i64) (iv xs[i]) = true := rfl
    have e2 : aggQ (iv 0) = false := rfl
    have e3 : AVal.int .i64 (iv xs[i]).toInt = iv xs[i] := rfl
    have ih := s21_0 xs hl n (i + 1) (by omega)
    simp only [List.length_map, Int.toNat_natCast, dlt_true hi, d0_true, Bool.and_self, cond_true, getD_map iv hi, e1, filled_len iv (iv 0) (Nat.le_of_lt hi), filled_get iv (iv 0) hi, blt_true hi, e2, Bool.not_false, wrap_succ hi (by omega), e3, filled_set iv (iv 0) hi, ih]
theorem s21 (xs : List Int) (hl : xs.length ≤ 1048576) : Fl_toIntS (xs.map iv) = some (xs.map iv) := by
  refine ul_toIntS _ ?_
  have e := s21_0 xs hl xs.length 0 (by omega)
  rw [filled_zero] at e
  have h0 : (0 : Int) ≤ (xs.length : Int) := by omega
  have hc : capB xs.length 8 = true := capB_le (by omega)
  simp only [Int.natCast_zero] at e
  simp only [List.length_map, Int.toNat_natCast, h0, Int.le_refl, hc, decide_true, Bool.and_self, cond_true]
  rw [show (AVal.int .i64 0) = iv 0 from rfl, e]; rfl
theorem s62 (a b : Int) : Fl_toEdit a b = some (a, b) := ul_toEdit _ _ rfl
theorem s22_0 (xs : List (Int × Int)) (hl : xs.length ≤ 1048576) : ∀ n i : Nat, i + n = xs.length → Ll_toEditS_0 (xs.map ev2) (i : Int) (filled ev2 (ev2 (0, 0)) xs i) = some (xs.map ev2)
  | 0, i, h => by
    refine ll_toEditS_0 _ _ _ ?_
    obtain rfl : i = xs.length := by omega
    simp [filled_all]
  | n + 1, i, h => by
    have hi : i < xs.length := by omega
    refine ll_toEditS_0 _ _ _ ?_
    have e1 : shapes [.int .i64, .int .i64] (((ev2 xs[i]).cells.drop 0).take 2) = true := rfl
    have e2 : aggQ (ev2 (0, 0)) = true := rfl
    have e4 : Nat.ble 2 (ev2 (0, 0)).cells.length = true := rfl
    have e3 : AVal.agg (setMany (ev2 (0, 0)).cells 0 [.int .i64 ((ev2 xs[i]).cell 0).toInt, .int .i64 ((ev2 xs[i]).cell 1).toInt]) = ev2 xs[i] := rfl
    have ih := s22_0 xs hl n (i + 1) (by omega)
    simp only [List.length_map, Int.toNat_natCast, dlt_true hi, d0_true, Bool.and_self, cond_true, getD_map ev2 hi, e1, s62, Option.bind_some, filled_len ev2 (ev2 (0, 0)) (Nat.le_of_lt hi), filled_get ev2 (ev2 (0, 0)) hi, blt_true hi, e2, e4, wrap_succ hi (by omega), e3, filled_set ev2 (ev2 (0, 0)) hi, bnd_eq, ih]
theorem s22 (xs : List (Int × Int)) (hl : xs.length ≤ 1048576) : Fl_toEditS (xs.map ev2) = some (xs.map ev2) := by
  refine ul_toEditS _ ?_
  have e := s22_0 xs hl xs.length 0 (by omega)
  rw [filled_zero] at e
  have h0 : (0 : Int) ≤ (xs.length : Int) := by omega
  have hc : capB xs.length 16 = true := capB_le (by omega)
  simp only [Int.natCast_zero] at e
  simp only [List.length_map, Int.toNat_natCast, h0, Int.le_refl, hc, decide_true, Bool.and_self, cond_true]
  rw [bnd_eq, show (AVal.agg [.int .i64 0, .int .i64 0]) = ev2 (0, 0) from rfl, e]; rfl
theorem s24_0 (xs : List Int) (hl : xs.length ≤ 1048576) : ∀ n i : Nat, i + n = xs.length → Ll_eqIntS_0 (xs.map iv) (xs.map iv) (i : Int) = some (.inr ())
  | 0, i, h => by
    refine ll_eqIntS_0 _ _ _ ?_
    simp [show ¬ i < xs.length by omega]
  | n + 1, i, h => by
    have hi : i < xs.length := by omega
    refine ll_eqIntS_0 _ _ _ ?_
    have e1 : CT.shape (.int .i64) (iv xs[i]) = true := rfl
    simp only [List.length_map, Int.toNat_natCast, dlt_true hi, d0_true, Bool.and_self, cond_true, cond_false, getD_map iv hi, e1, decide_true, Bool.not_true, wrap_succ hi (by omega), s24_0 xs hl n (i + 1) (by omega)]
theorem s24 (xs : List Int) (hl : xs.length ≤ 1048576) : Fl_eqIntS (xs.map iv) (xs.map iv) = some true := by
  refine ul_eqIntS _ _ ?_
  have e := s24_0 xs hl xs.length 0 (by omega)
  simp only [Int.natCast_zero] at e
  simp [e]
theorem s63 (a b : Int) : Fl_eqEdit a b a b = some true := ul_eqEdit _ _ _ _ (by simp)
theorem s25_0 (xs : List (Int × Int)) (hl : xs.length ≤ 1048576) : ∀ n i : Nat, i + n = xs.length → Ll_eqEditS_0 (xs.map ev2) (xs.map ev2) (i : Int) = some (.inr ())
  | 0, i, h => by
    refine ll_eqEditS_0 _ _ _ ?_
    simp [show ¬ i < xs.length by omega]
  | n + 1, i, h => by
    have hi : i < xs.length := by omega
    refine ll_eqEditS_0 _ _ _ ?_
    have e1 : shapes [.int .i64, .int .i64] (((ev2 xs[i]).cells.drop 0).take 2) = true := rfl
    simp only [List.length_map, Int.toNat_natCast, dlt_true hi, d0_true, Bool.and_self, cond_true, cond_false, getD_map ev2 hi, e1, s63, Option.bind_some, Bool.not_true, wrap_succ hi (by omega), s25_0 xs hl n (i + 1) (by omega)]
theorem s25 (xs : List (Int × Int)) (hl : xs.length ≤ 1048576) : Fl_eqEditS (xs.map ev2) (xs.map ev2) = some true := by
  refine ul_eqEditS _ _ ?_
  have e := s25_0 xs hl xs.length 0 (by omega)
  simp only [Int.natCast_zero] at e
  simp [e]
theorem s26_0 : ∀ (xs : List Int) (pre : List AVal) (k : Int), pre.length + xs.length ≤ 1048576 → 0 ≤ k → k + xs.length ≤ 1000000000000 → Ll_markIntS_0 k (pre.length : Int) (pre ++ xs.map iv) = some (k + xs.length, pre ++ marks k xs.length)
  | [], pre, k, hl, h1, h2 => by
    refine ll_markIntS_0 _ _ _ ?_
    simp [marks]
  | x :: xs, pre, k, hl, h1, h2 => by
    have hm := mid_len pre (xs.map iv) (iv x)
    simp only [List.length_cons] at hl h2
    have e2 : aggQ (iv x) = false := rfl
    have e3 : AVal.int .i64 k = iv k := rfl
    have ih := s26_0 xs (pre ++ [iv k]) (k + 1) (by simp; omega) (by omega) (by omega)
    simp only [List.append_assoc, List.cons_append, List.nil_append, List.length_append, List.length_cons, List.length_nil, Nat.zero_add] at ih
    have ew : IntKind.wrap .i64 (k + 1) = k + 1 := wrap64 (by omega) (by omega)
    refine ll_markIntS_0 _ _ _ ?_
    simp only [List.map_cons, Int.toNat_natCast, dlt_true hm, d0_true, Bool.and_self, cond_true, mid_get, blt_true hm, e2, Bool.not_false, ew, wrap_succ hm (by simp; omega), mid_set, e3, ih, List.length_cons, marks, Option.some.injEq, Prod.mk.injEq, and_true]
    omega
theorem s26 (xs : List Int) (k : Int) (hl : xs.length ≤ 1048576) (h1 : 0 ≤ k) (h2 : k ≤ 1000000000) : Fl_markIntS k (xs.map iv) = some (k + xs.length, marks k xs.length) := by
  refine ul_markIntS _ _ ?_
  have e := s26_0 xs [] k (by simp; omega) h1 (by omega)
  simp only [List.nil_append, List.length_nil, Int.natCast_zero] at e
  simp [e]
theorem s28_0 : ∀ (n : Nat) (pre : List AVal) (k : Int), pre.length + n ≤ 1048576 → 0 ≤ k → k + n ≤ 1000000000000 → Ll_heldIntS_0 (pre ++ marks k n) k (pre.length : Int) = some (.inr (k + n))
  | 0, pre, k, hl, h1, h2 => by
    refine ll_heldIntS_0 _ _ _ ?_
    simp [marks]
  | n + 1, pre, k, hl, h1, h2 => by
    have hm := mid_len pre (marks (k + 1) n) (iv k)
    have ih := s28_0 n (pre ++ [iv k]) (k + 1) (by simp; omega) (by omega) (by omega)
    simp only [List.append_assoc, List.cons_append, List.nil_append, List.length_append, List.length_cons, List.length_nil, Nat.zero_add] at ih
    have ew : IntKind.wrap .i64 (k + 1) = k + 1 := wrap64 (by omega) (by omega)
    have e1 : CT.shape (.int .i64) (iv k) = true := rfl
    have e2 : (iv k).toInt = k := rfl
    rw [show marks k (n + 1) = iv k :: marks (k + 1) n from rfl]
    refine ll_heldIntS_0 _ _ _ ?_
    simp only [Int.toNat_natCast, dlt_true hm, d0_true, Bool.and_self, cond_true, cond_false, mid_get, e1, e2, decide_true, Bool.not_true, ew, wrap_succ hm (by simp [marks_len]; omega), ih, Option.some.injEq, Sum.inr.injEq]
    omega
theorem s28 (n : Nat) (k : Int) (hl : n ≤ 1048576) (h1 : 0 ≤ k) (h2 : k ≤ 1000000000) : Fl_heldIntS (marks k n) k = some (k + n) := by
  refine ul_heldIntS _ _ ?_
  have e := s28_0 n [] k (by simp; omega) h1 (by omega)
  simp only [List.nil_append, List.length_nil, Int.natCast_zero] at e
  simp [e]
theorem s27_0 : ∀ (xs : List (Int × Int)) (pre : List AVal) (k : Int), pre.length + xs.length ≤ 1048576 → 0 ≤ k → k + 2 * xs.length ≤ 1000000000000 → ∃ l, Ll_markEditS_0 k (pre.length : Int) (pre ++ xs.map ev2) = some (k + 2 * xs.length, l)
  | [], pre, k, hl, h1, h2 => by
    refine ⟨pre, ll_markEditS_0 _ _ _ ?_⟩
    simp
  | x :: xs, pre, k, hl, h1, h2 => by
    simp only [List.length_cons] at hl h2
    have ew : IntKind.wrap .i64 (k + 1) = k + 1 := wrap64 (by omega) (by omega)
    have ew2 : IntKind.wrap .i64 (k + 1 + 1) = k + 2 := by rw [wrap64 (by omega) (by omega)]; omega
    obtain ⟨l, ih⟩ := s27_0 xs (pre ++ [ev2 (k, k + 1)]) (k + 2) (by simp; omega) (by omega) (by omega)
    simp only [List.append_assoc, List.cons_append, List.nil_append, List.length_append, List.length_cons, List.length_nil, Nat.zero_add] at ih
    refine ⟨l, ll_markEditS_0 _ _ _ ?_⟩
    have hm : ∀ y : AVal, pre.length < (pre ++ y :: xs.map ev2).length := fun y => mid_len pre (xs.map ev2) y
    have e1 : aggQ (ev2 x) = true := rfl
    have e2 : Nat.ble 1 (ev2 x).cells.length = true := rfl
    have e3 : AVal.agg (setMany (ev2 x).cells 0 [.int .i64 k]) = ev2 (k, x.2) := rfl
    have e4 : aggQ (ev2 (k, x.2)) = true := rfl
    have e5 : Nat.ble 2 (ev2 (k, x.2)).cells.length = true := rfl
    have e6 : AVal.agg (setMany (ev2 (k, x.2)).cells 1 [.int .i64 (k + 1)]) = ev2 (k, k + 1) := rfl
    simp only [List.map_cons, Int.toNat_natCast, dlt_true (hm _), d0_true, Bool.and_self, cond_true, mid_get, blt_true (hm _), e1, e2, mid_set, bnd_eq, e3, e4, e5, ew, ew2, e6, wrap_succ (hm (ev2 x)) (by simp; omega), ih, Option.some.injEq, Prod.mk.injEq, and_true, List.length_cons]
    omega
theorem s27 (xs : List (Int × Int)) (k : Int) (hl : xs.length ≤ 1048576) (h1 : 0 ≤ k) (h2 : k ≤ 1000000000) : ∃ l, Fl_markEditS k (xs.map ev2) = some (k + 2 * xs.length, l) := by
  obtain ⟨l, e⟩ := s27_0 xs [] k (by simp; omega) h1 (by omega)
  simp only [List.nil_append, List.length_nil, Int.natCast_zero] at e
  exact ⟨l, ul_markEditS _ _ (by simp [e])⟩
/-! What Apply gives -/
def app (w : List Int) : List (Int × Int) → Nat → List Int → Option (Nat × List Int)
  | [], a, o => some (a, o)
  | (k, t) :: r, a, o =>
    if 1 ≤ k ∧ k ≤ 3 ∧ 0 ≤ t then
      if k = 3 then app w r a (o ++ [t])
      else if h : a < w.length then (if w[a] = t then app w r (a + 1) (if k = 2 then o else o ++ [t]) else none) else none
    else none
theorem s20_0 (w : List Int) (hw : w.length ≤ 1048576) : ∀ (es pre : List (Int × Int)) (a : Nat) (o : List Int), (pre ++ es).length ≤ 100000000 → a ≤ w.length → o.length ≤ pre.length →
    Ls_Apply_0 (w.map iv) ((pre ++ es).map ev2) (a : Int) (pre.length : Int) (o.map iv) = some (match app w es a o with | none => .inl (10, []) | some (b, q) => .inr (w.map iv, (b : Int), q.map iv))
  | [], pre, a, o, hl, ha, ho => by
    refine ls_Apply_0 _ _ _ _ _ ?_
    simp [app]
  | (k, t) :: es, pre, a, o, hl, ha, ho => by
    have hm : pre.length < (pre ++ (k, t) :: es).length := mid_len ..
    have hl2 : pre.length + (es.length + 1) ≤ 100000000 := by simpa using hl
    have e1 : shapes [.int .i64, .int .i64] (((ev2 (k, t)).cells.drop 0).take 2) = true := rfl
    have e2 : ((ev2 (k, t)).cell 0).toInt = k := rfl
    have e3 : ((ev2 (k, t)).cell 1).toInt = t := rfl
    have hc : capB (o.length + 1) 8 = true := capB_le (by omega)
    refine ls_Apply_0 _ _ _ _ _ ?_
    simp only [Int.toNat_natCast, dlt_true hm, d0_true, Bool.and_self, cond_true, map_mid, e1, e2, e3, s61, Option.bind_some, List.length_map, hc]
    by_cases g1 : 1 ≤ k ∧ k ≤ 3
    · have q1 : (decide (1 ≤ k) && decide (k ≤ 3)) = true := by simpa using g1
      by_cases g2 : t < 0
      · have : ¬ (1 ≤ k ∧ k ≤ 3 ∧ 0 ≤ t) := by omega
        simp [q1, g2, app, this]
      have g3 : 1 ≤ k ∧ k ≤ 3 ∧ 0 ≤ t := by omega
      have ei : IntKind.wrap .i64 ((pre.length : Int) + 1) = ((pre.length + 1 : Nat) : Int) := wrap_succ hm (by omega)
      by_cases g4 : k = 3
      · subst g4
        have ih := s20_0 w hw es (pre ++ [(3, t)]) a (o ++ [t]) (by simpa using hl) ha (by simp; omega)
        simp only [List.append_assoc, List.cons_append, List.nil_append, List.length_append, List.length_cons, List.length_nil, Nat.zero_add, List.map_append (l₁ := o), List.map_cons (l := []), List.map_nil] at ih
        simp only [q1, g2, ei, app, g3]
        simp only [Bool.not_true, cond_false, decide_true, decide_false, cond_true, if_true, and_self, show ((3 : Int) = 2) = False from by simp, Bool.not_false]
        exact ih
      · by_cases g5 : a < w.length
        · have q5 : ¬ (w.length : Int) ≤ (a : Int) := by omega
          have e5 : CT.shape (.int .i64) (iv w[a]) = true := rfl
          have e6 : (iv w[a]).toInt = w[a] := rfl
          have e7 : CT.shape (.int .i64) (iv t) = true := rfl
          have e8 : (iv t).toInt = t := rfl
          have ea : IntKind.wrap .i64 ((a : Int) + 1) = ((a + 1 : Nat) : Int) := wrap_succ g5 (by omega)
          by_cases g6 : w[a] = t
          · have ih := s20_0 w hw es (pre ++ [(k, t)]) (a + 1) (if k = 2 then o else o ++ [t]) (by simpa using hl) (by omega) (by split <;> simp <;> omega)
            simp only [List.append_assoc, List.cons_append, List.nil_append, List.length_append, List.length_cons, List.length_nil, Nat.zero_add] at ih
            simp only [q1, g2, ei, ea, app, g3, g4, g5, q5, dlt_true g5, d0_true, getD_map iv g5, g6, e7, e8]
            by_cases g7 : k = 2
            · simp only [g7, if_true] at ih
              simp only [g7, Bool.not_true, cond_false, decide_true, decide_false, cond_true, if_true, if_false, and_self, Bool.not_false, Bool.and_self, dite_true]
              exact ih
            · simp only [g7, if_false, List.map_append (l₁ := o), List.map_cons (l := []), List.map_nil] at ih
              simp only [g7, Bool.not_true, cond_false, decide_true, decide_false, cond_true, if_true, if_false, and_self, Bool.not_false, Bool.and_self, dite_true]
              exact ih
          · simp [q1, g2, app, g3, g4, g5, q5, getD_map iv g5, e5, e6, g6]
        · have q5 : (w.length : Int) ≤ (a : Int) := by omega
          simp [q1, g2, app, g3, g4, g5, q5]
    · have q1 : (decide (1 ≤ k) && decide (k ≤ 3)) = false := by simpa using g1
      have : ¬ (1 ≤ k ∧ k ≤ 3 ∧ 0 ≤ t) := by omega
      simp [q1, app, this]
theorem s23_0 (w : List Int) (hw : w.length ≤ 1048576) : ∀ (es pre : List (Int × Int)) (a : Nat) (o : List Int), (pre ++ es).length ≤ 100000000 → a ≤ w.length → o.length ≤ pre.length →
    Li_Apply_0 (w.map iv) (a : Int) ((pre ++ es).map ev2) ((pre ++ es).length : Int) (pre.length : Int) (o.map iv) = some (match app w es a o with | none => .inl 10 | some (b, q) => .inr (w.map iv, (b : Int), q.map iv))
  | [], pre, a, o, hl, ha, ho => by
    refine li_Apply_0 _ _ _ _ _ _ ?_
    simp [app]
  | (k, t) :: es, pre, a, o, hl, ha, ho => by
    have hm : pre.length < (pre ++ (k, t) :: es).length := mid_len ..
    have hl2 : pre.length + (es.length + 1) ≤ 100000000 := by simpa using hl
    have e1 : shapes [.int .i64, .int .i64] (((ev2 (k, t)).cells.drop 0).take 2) = true := rfl
    have e2 : ((ev2 (k, t)).cell 0).toInt = k := rfl
    have e3 : ((ev2 (k, t)).cell 1).toInt = t := rfl
    have hc : capB (o.length + 1) 8 = true := capB_le (by omega)
    have e7 : CT.shape (.int .i64) (iv t) = true := rfl
    have e8 : (iv t).toInt = t := rfl
    refine li_Apply_0 _ _ _ _ _ _ ?_
    simp only [Int.toNat_natCast, dlt_true hm, d0_true, Bool.and_self, cond_true, map_mid, e1, e2, e3, List.length_map, hc]
    by_cases g2 : t < 0
    · have : ¬ (1 ≤ k ∧ k ≤ 3 ∧ 0 ≤ t) := by omega
      simp [g2, app, this]
    have ei : IntKind.wrap .i64 ((pre.length : Int) + 1) = ((pre.length + 1 : Nat) : Int) := wrap_succ hm (by omega)
    by_cases g4 : k = 3
    · subst g4
      have ih := s23_0 w hw es (pre ++ [(3, t)]) a (o ++ [t]) (by simpa using hl) ha (by simp; omega)
      simp only [List.append_assoc, List.cons_append, List.nil_append, show ∀ x : Int × Int, (pre ++ [x]).length = pre.length + 1 from fun x => by simp, List.map_append (l₁ := o), List.map_cons (l := []), List.map_nil] at ih
      have g3 : (1 : Int) ≤ 3 ∧ (3 : Int) ≤ 3 ∧ 0 ≤ t := by omega
      simp only [g2, ei, app, g3, show ((3 : Int) = 1) = False from by simp, show ((3 : Int) = 2) = False from by simp, decide_true, decide_false, cond_true, cond_false, if_true, and_self]
      exact ih
    · by_cases g1 : k = 1 ∨ k = 2
      · have g3 : 1 ≤ k ∧ k ≤ 3 ∧ 0 ≤ t := by omega
        by_cases g5 : a < w.length
        · have q5 : ¬ (w.length : Int) ≤ (a : Int) := by omega
          have e5 : CT.shape (.int .i64) (iv w[a]) = true := rfl
          have e6 : (iv w[a]).toInt = w[a] := rfl
          have ea : IntKind.wrap .i64 ((a : Int) + 1) = ((a + 1 : Nat) : Int) := wrap_succ g5 (by omega)
          by_cases g6 : w[a] = t
          · have ih := s23_0 w hw es (pre ++ [(k, t)]) (a + 1) (if k = 2 then o else o ++ [t]) (by simpa using hl) (by omega) (by split <;> simp <;> omega)
            simp only [List.append_assoc, List.cons_append, List.nil_append, show ∀ x : Int × Int, (pre ++ [x]).length = pre.length + 1 from fun x => by simp] at ih
            simp only [g2, ei, ea, app, g3, g4, g5, q5, dlt_true g5, d0_true, getD_map iv g5, g6, e7, e8]
            rcases g1 with rfl | rfl
            · simp only [show ((1 : Int) = 2) = False from by simp, if_false, List.map_append (l₁ := o), List.map_cons (l := []), List.map_nil] at ih
              simp only [show ((1 : Int) = 2) = False from by simp, Bool.not_true, cond_false, decide_true, decide_false, cond_true, if_true, if_false, and_self, Bool.and_self, dite_true]
              exact ih
            · simp only [if_true] at ih
              simp only [show ((2 : Int) = 1) = False from by simp, Bool.not_true, cond_false, decide_true, decide_false, cond_true, if_true, if_false, and_self, Bool.and_self, dite_true]
              exact ih
          · rcases g1 with rfl | rfl <;> simp [g2, app, g5, q5, getD_map iv g5, e5, e6, g6, show (0 ≤ t) by omega]
        · have q5 : (w.length : Int) ≤ (a : Int) := by omega
          rcases g1 with rfl | rfl <;> simp [g2, app, g5, q5, show (0 ≤ t) by omega]
      · have h1 : ¬ k = 1 := by omega
        have h2 : ¬ k = 2 := by omega
        have : ¬ (1 ≤ k ∧ k ≤ 3 ∧ 0 ≤ t) := by omega
        simp [g2, g4, h1, h2, app, this]
/-- what Apply gives -/
def applyV (w : List Int) (es : List (Int × Int)) : List Int × Int :=
  match app w es 0 [] with
  | none => ([], 10)
  | some (b, q) => if b = w.length then (q, 0) else ([], 10)
theorem s20 (w : List Int) (es : List (Int × Int)) (hw : w.length ≤ 1048576) (he : es.length ≤ 1048576) : Fs_Apply (w.map iv) (es.map ev2) = some ((applyV w es).1.map iv, (applyV w es).2) := by
  refine us_Apply _ _ ?_
  have e := s20_0 w hw es [] 0 [] (by simp; omega) (by omega) (by simp)
  simp only [List.nil_append, List.length_nil, Int.natCast_zero, List.map_nil] at e
  rw [e]
  unfold applyV
  cases h : app w es 0 [] with
  | none => simp [asRoL]
  | some r =>
    obtain ⟨b, q⟩ := r
    by_cases g : b = w.length
    · have : (b : Int) = (w.length : Int) := by omega
      simp [g, asRoL_map asRo_iv]
    · have : ¬ (b : Int) = (w.length : Int) := by omega
      simp [g, this]
theorem s23 (w : List Int) (es : List (Int × Int)) (hw : w.length ≤ 1048576) (he : es.length ≤ 1048576) : Fi_Apply (w.map iv) (es.map ev2) = some ((applyV w es).1.map iv, (applyV w es).2) := by
  refine ui_Apply _ _ ?_
  have e := s23_0 w hw es [] 0 [] (by simp; omega) (by omega) (by simp)
  simp only [List.nil_append, List.length_nil, Int.natCast_zero, List.map_nil] at e
  rw [List.length_map, e]
  unfold applyV
  cases h : app w es 0 [] with
  | none => simp
  | some r =>
    obtain ⟨b, q⟩ := r
    by_cases g : b = w.length
    · have : (b : Int) = (w.length : Int) := by omega
      simp [g]
    · have : ¬ (b : Int) = (w.length : Int) := by omega
      simp [g, this]
theorem app_len (w : List Int) : ∀ (es : List (Int × Int)) (a : Nat) (o : List Int) (b : Nat) (q : List Int), app w es a o = some (b, q) → q.length ≤ o.length + es.length
  | [], a, o, b, q, h => by simp only [app, Option.some.injEq, Prod.mk.injEq] at h; obtain ⟨_, rfl⟩ := h; simp
  | (k, t) :: es, a, o, b, q, h => by
    simp only [app] at h
    split at h
    · split at h
      · have := app_len w es _ _ b q h; simp at this ⊢; omega
      · split at h
        · split at h
          · have := app_len w es _ _ b q h
            split at this <;> simp at this ⊢ <;> omega
          · cases h
        · cases h
    · cases h
theorem applyV_len (w : List Int) (es : List (Int × Int)) : (applyV w es).1.length ≤ es.length := by
  unfold applyV
  cases h : app w es 0 [] with
  | none => simp
  | some r =>
    obtain ⟨b, q⟩ := r
    have := app_len w es 0 [] b q h
    simp only [List.length_nil, Nat.zero_add] at this
    dsimp only
    split
    · exact this
    · simp
theorem s19 (es : List (Int × Int)) (l : Int) (he : es.length ≤ maxLen) (h0 : 0 ≤ l) (h1 : l ≤ 1048576) : Fl_szEditS (es.map ev2) l = some (if l < es.length then -1 else l - es.length) := by
  refine ul_szEditS _ _ ?_
  unfold maxLen at he
  have e : IntKind.wrap .i64 (l - (es.length : Int)) = l - (es.length : Int) := wrap64 (by omega) (by omega)
  by_cases g : l < (es.length : Int)
  · have : l - (es.length : Int) < 0 := by omega
    simp [e, g, this]
  · have : ¬ l - (es.length : Int) < 0 := by omega
    simp [e, g, this]
theorem law5 (w : List Int) (es : List (Int × Int)) (he : es.length ≤ maxLen) : Fl_FnExactApply (w.map iv) (es.map ev2) = some true := by
  refine ul_FnExactApply _ _ ?_
  rw [s19 es 1048576 he (by omega) (by omega)]
  by_cases g1 : 1048576 < (w.length : Int)
  · simp [g1]
  by_cases g2 : (1048576 : Int) < (es.length : Int)
  · simp [g1, g2]
  have hw : w.length ≤ 1048576 := by omega
  have hE : es.length ≤ 1048576 := by omega
  have hq : (applyV w es).1.length ≤ 1048576 := Nat.le_trans (applyV_len w es) hE
  obtain ⟨l, hl⟩ := s27 es (1 + w.length) hE (by omega) (by omega)
  have g3 : ¬ (1048576 - (es.length : Int) < 0) := by omega
  have g4 : ¬ ((1 : Int) + (w.length : Int) + 2 * (es.length : Int) < 0) := by omega
  have g5 : ¬ ((1 : Int) + ((applyV w es).1.length : Int) < 0) := by omega
  simp only [List.length_map, g1, g2, g3, g4, g5, decide_true, decide_false, cond_true, cond_false, if_false, Bool.not_true, Option.bind_some, s21 w hw, s22 es hE, asRoL_map asRo_iv, asRoL_map asRo_ev2, s20 w es hw hE, s23 w es hw hE, noRoL_map noRo_iv, Bool.and_self, s24 w hw, s24 _ hq, s25 es hE, s26 w 1 hw (by omega) (by omega), hl, s26 _ 1 hq (by omega) (by omega), asRo_marks, s28 _ 1 hq (by omega) (by omega)]
theorem ints_of : ∀ {xs : List AVal}, (∀ y ∈ xs, Fits ctx ty_int y) → ∃ ns : List Int, xs = ns.map iv
  | [], _ => ⟨[], rfl⟩
  | y :: ys, h => by
    obtain ⟨n, rfl, _⟩ := (h y (by simp)).int' (k := .i64) (by kernel_rfl)
    obtain ⟨ns, rfl⟩ := ints_of (xs := ys) fun z hz => h z (by simp [hz])
    exact ⟨n :: ns, rfl⟩
theorem edits_of : ∀ {xs : List AVal}, (∀ y ∈ xs, Fits ctx ty_laws_Edit y) → ∃ ns : List (Int × Int), xs = ns.map ev2
  | [], _ => ⟨[], rfl⟩
  | y :: ys, h => by
    obtain ⟨fs, rfl, g⟩ := (h y (by simp)).struct' (us := [ty_int, ty_int]) (by kernel_rfl)
    obtain ⟨a, r, rfl, g1, g⟩ := g.cons'
    obtain ⟨b, r, rfl, g2, g⟩ := g.cons'
    obtain rfl := g.nil'
    obtain ⟨n, rfl, _⟩ := g1.int' (k := .i64) (by kernel_rfl)
    obtain ⟨m, rfl, _⟩ := g2.int' (k := .i64) (by kernel_rfl)
    obtain ⟨ns, rfl⟩ := edits_of (xs := ys) fun z hz => h z (by simp [hz])
    exact ⟨(n, m) :: ns, rfl⟩
theorem lawApply : ∀ xs, FitsL ctx [ty_S_int, ty_S_laws_Edit] xs → ∃ k, vcall ctx k n_l_FnExactApply xs [] = some ([.bool true], []) := by
  intro xs h
  obtain ⟨x, r, rfl, h1, h⟩ := h.cons'
  obtain ⟨y, r, rfl, h2, h⟩ := h.cons'
  obtain rfl := h.nil'
  obtain ⟨xs, rfl, _, w1⟩ := h1.slice' (sz := 1) (e := ty_int) (by kernel_rfl)
  obtain ⟨ys, rfl, w2, w3⟩ := h2.slice' (sz := 2) (e := ty_laws_Edit) (by kernel_rfl)
  obtain ⟨ns, rfl⟩ := ints_of w1
  obtain ⟨es, rfl⟩ := edits_of w3
  rw [List.length_map] at w2
  exact law_of (S := sgl_FnExactApply) (a := (ns.map iv, es.map ev2)) (law5 ns es w2) rfl rfl
end Go.Proofs.Ytlaalinfmhiehaa
