/- Rows of a table without doubles: what the program and the reference compute of a table; tables that are not too large, numbers that fit into 64 bits. -/
import Derived.Test.YtmbnloccmnclnaaDoorBpk
import Derived.Test.YtmbnloccmnclnaaDoorKf
import Derived.Test.YtmbnloccmnclnaaDoorLo
namespace Go.Proofs.YtmbnloccmnclnaaDoor
open Go.VK AVal
def flatA (xs : List ActD) : List Int := xs.flatMap fun a => [a.1, a.2]
theorem flatA_inj : ∀ {a b : List ActD}, flatA a = flatA b → a = b
  | [], [], _ => rfl
  | [], y :: b, h => by simp [flatA] at h
  | x :: a, [], h => by simp [flatA] at h
  | x :: a, y :: b, h => by
    simp only [flatA, List.flatMap_cons, List.cons_append, List.nil_append, List.cons.injEq] at h
    obtain ⟨h1, h2, h3⟩ := h
    rw [flatA_inj (a := a) (b := b) h3, Prod.ext h1 h2]
def aKey (xs : List ActD) : ByteArray := keyB (flatA xs)
theorem aKey_inj (a b : List ActD) (h : aKey a = aKey b) : a = b := flatA_inj (keyB_inj h)
theorem flatA_len (xs : List ActD) : (flatA xs).length = 2 * xs.length := by
  induction xs with
  | nil => rfl
  | cons x xs ih => simp only [flatA, List.flatMap_cons, List.length_append, List.length_cons, List.length_nil] at ih ⊢; omega
def actQ (a : ActD) : Prop := i64Q a.1 ∧ i64Q a.2
theorem aKeyF_0 : ∀ (xs pre : List ActD), (pre ++ xs).length ≤ 1048576 → Li_actsKey_0 ((pre ++ xs).map avAct) ((pre ++ xs).length : Int) (pre.length : Int) ((flatA pre).map iv) = some ((flatA (pre ++ xs)).map iv)
  | [], pre, hl => by
    refine li_actsKey_0 _ _ _ _ ?_
    simp
  | x :: xs, pre, hl => by
    have hm := mid_len pre xs x
    have ih := aKeyF_0 xs (pre ++ [x]) (by simpa using hl)
    simp only [List.append_assoc, List.cons_append, List.nil_append] at ih
    rw [show (pre ++ [x]).length = pre.length + 1 by simp] at ih
    have e : (flatA pre).map iv ++ [.int .i64 x.1, .int .i64 x.2] = (flatA (pre ++ [x])).map iv := by simp [flatA, iv]
    have hc : capB (((flatA pre).map iv).length + 2) 8 = true := capB_le (by rw [List.length_map, flatA_len]; omega)
    refine li_actsKey_0 _ _ _ _ ?_
    simp only [Int.toNat_natCast, map_mid, List.length_map, sh_Act, c0_Act, c1_Act, dlt_true hm, d0_true, Bool.and_self, wrap_succ hm (by omega), cond_true] at hc ⊢
    simp only [hc, cond_true, Bnd, e, ih]
theorem aKeyF (xs : List ActD) (hl : xs.length ≤ 1048576) (hr : ∀ a ∈ xs, actQ a) : Fi_actsKey (xs.map avAct) = some (aKey xs) := by
  refine ui_actsKey _ ?_
  have e := aKeyF_0 xs [] hl
  simp only [List.nil_append, List.length_nil, Int.natCast_zero] at e
  have e' : Li_actsKey_0 (xs.map avAct) (xs.length : Int) 0 [] = _ := e
  have hk := keyF (flatA xs) (by rw [flatA_len]; omega) fun y hy => by
    obtain ⟨a, ha, hy⟩ := List.mem_flatMap.1 hy
    simp only [List.mem_cons, List.not_mem_nil, or_false] at hy
    rcases hy with rfl | rfl
    · exact (hr a ha).1
    · exact (hr a ha).2
  simp only [List.length_map, e', Option.bind_some, asRoL_map asRo_iv, hk, aKey]
theorem eq_allN {α : Type} [DecidableEq α] (d : α) {xs ys : List α} (h : xs.length = ys.length) : allN (fun i => decide (xs.getD i d = ys.getD i d)) xs.length = decide (xs = ys) := by
  rw [Bool.eq_iff_iff, allN_iff, decide_eq_true_eq]
  constructor
  · intro H
    refine List.ext_getElem h fun i h1 h2 => ?_
    have := H i h1
    simp only [decide_eq_true_eq] at this
    simpa [List.getD_eq_getElem?_getD, h1, h2] using this
  · rintro rfl i _; simp
theorem samA (xs ys : List ActD) (hl : xs.length ≤ 1048576) : Fs_l05SameActs (xs.map avAct) (ys.map avAct) = some (decide (xs = ys)) := by
  refine us_l05SameActs _ _ ?_
  by_cases h : xs.length = ys.length
  · have e := loop_all (S := Unit) (fun i => Ls_l05SameActs_0 (xs.map avAct) (ys.map avAct) (i : Int)) xs.length (fun i => decide (xs.getD i (0, 0) = ys.getD i (0, 0))) () (by
      refine ls_l05SameActs_0 _ _ _ ?_
      simp) (fun i hi y hy => by
      refine ls_l05SameActs_0 _ _ _ ?_
      have p : (decide ((xs.getD i (0, 0)).1 = (ys.getD i (0, 0)).1) && (decide ((xs.getD i (0, 0)).2 = (ys.getD i (0, 0)).2) && true)) = decide (xs.getD i (0, 0) = ys.getD i (0, 0)) := by
        rw [Bool.and_true, Bool.eq_iff_iff]; simp [Prod.ext_iff]
      simp only [Int.toNat_natCast, List.length_map, getD_map' avAct (0, 0) hi, getD_map' avAct (0, 0) (show i < ys.length by omega), sh_Act, c0_Act, c1_Act, lt_true hi, in_true (show i < ys.length by omega), wrap_i (show i < 9000000000000000000 by omega), cond_true, p]
      cases hp : decide (xs.getD i (0, 0) = ys.getD i (0, 0)) <;> simp only [hp, cond_true, cond_false, Bool.not_true, Bool.not_false] at hy ⊢ <;> exact hy)
    rw [eq_allN (0, 0) h] at e
    have e' : Ls_l05SameActs_0 (xs.map avAct) (ys.map avAct) 0 = _ := e
    simp only [List.length_map, h, decide_true, Bool.not_true, cond_false, e', Option.bind_some]
    cases decide (xs = ys) <;> rfl
  · have h2 : ¬ ((xs.length : Int) = (ys.length : Int)) := by omega
    have h3 : xs ≠ ys := fun e => h (by rw [e])
    simp [h2, h3]
theorem samI (xs ys : List Int) (hl : xs.length ≤ 1048576) : Fs_l05SameInts (xs.map iv) (ys.map iv) = some (decide (xs = ys)) := by
  refine us_l05SameInts _ _ ?_
  by_cases h : xs.length = ys.length
  · have e := loop_all (S := Unit) (fun i => Ls_l05SameInts_0 (xs.map iv) (ys.map iv) (i : Int)) xs.length (fun i => decide (xs.getD i 0 = ys.getD i 0)) () (by
      refine ls_l05SameInts_0 _ _ _ ?_
      simp) (fun i hi y hy => by
      refine ls_l05SameInts_0 _ _ _ ?_
      simp only [Int.toNat_natCast, List.length_map, getD_map' iv 0 hi, getD_map' iv 0 (show i < ys.length by omega), e_int, e_toInt, lt_true hi, in_true (show i < ys.length by omega), wrap_i (show i < 9000000000000000000 by omega), cond_true]
      cases hp : decide (xs.getD i 0 = ys.getD i 0) <;> simp only [hp, cond_true, cond_false, Bool.not_true, Bool.not_false] at hy ⊢ <;> exact hy)
    rw [eq_allN 0 h] at e
    have e' : Ls_l05SameInts_0 (xs.map iv) (ys.map iv) 0 = _ := e
    simp only [List.length_map, h, decide_true, Bool.not_true, cond_false, e', Option.bind_some]
    cases decide (xs = ys) <;> rfl
  · have h2 : ¬ ((xs.length : Int) = (ys.length : Int)) := by omega
    have h3 : xs ≠ ys := fun e => h (by rw [e])
    simp [h2, h3]
/-! Even tables -/
def evQ (A : List (List ActD)) (B : List (List Int)) (i : Nat) : Bool := decide ((A.getD i []).length = (A.getD 0 []).length) && decide ((B.getD i []).length = (B.getD 0 []).length)
def evB (A : List (List ActD)) (B : List (List Int)) : Bool := decide (A.length ≤ 250) && (decide (A.length = B.length) && allN (evQ A B) A.length)
theorem e_actS (x : List ActD) : CT.shape (.slice 2) (avActS x) = true := rfl
theorem e_actSe (x : List ActD) : (avActS x).elems = x.map avAct := rfl
theorem e_intS (x : List Int) : CT.shape (.slice 1) (avIntS x) = true := rfl
theorem e_intSe (x : List Int) : (avIntS x).elems = x.map iv := rfl
theorem decI (a b : Nat) : decide (((a : Nat) : Int) = ((b : Nat) : Int)) = decide (a = b) := by
  rw [Bool.eq_iff_iff]; simp only [decide_eq_true_eq]; omega
theorem evS (A : List (List ActD)) (B : List (List Int)) (hl : A.length ≤ 1048576) : Fs_l05Even (A.map avActS) (B.map avIntS) = some (evB A B) := by
  refine us_l05Even _ _ ?_
  unfold evB
  simp only [List.length_map]
  by_cases h1 : A.length ≤ 250
  · have h1' : ¬ (250 : Int) < (A.length : Int) := by omega
    by_cases h2 : A.length = B.length
    · have e := loop_all (S := Unit) (fun i => Ls_l05Even_0 (i : Int) (A.map avActS) (B.map avIntS)) A.length (evQ A B) () (by
        refine ls_l05Even_0 _ _ _ ?_
        simp) (fun i hi y hy => by
        refine ls_l05Even_0 _ _ _ ?_
        have h0 : 0 < A.length := by omega
        have h0' : 0 < B.length := by omega
        have hi' : i < B.length := by omega
        unfold evQ at hy
        simp only [Int.toNat_natCast, List.length_map, getD_map' avActS [] hi, getD_map' avIntS [] hi', getD_map' avActS [] h0, getD_map' avIntS [] h0', e_actS, e_actSe, e_intS, e_intSe, lt_true hi, in_true hi', wrap_i (show i < 9000000000000000000 by omega), cond_true, decI,
          show decide ((0 : Int) < (A.length : Int)) = true from by simp; omega, show decide ((0 : Int) < (B.length : Int)) = true from by simp; omega]
        cases hp : decide ((A.getD i []).length = (A.getD 0 []).length) with
        | false => simp only [hp, Bool.false_and, cond_false, Bool.not_false, cond_true] at hy ⊢; exact hy
        | true =>
          cases hq : decide ((B.getD i []).length = (B.getD 0 []).length) <;> simp only [hp, hq, Bool.true_and, cond_false, cond_true, Bool.not_false, Bool.not_true] at hy ⊢ <;> exact hy)
      have e' : Ls_l05Even_0 0 (A.map avActS) (B.map avIntS) = _ := e
      have q1 : decide ((250 : Int) < (A.length : Int)) = false := by simp; omega
      have q2 : decide (A.length ≤ 250) = true := by simpa using h1
      have q3 : decide (A.length = B.length) = true := by simpa using h2
      have q4 : decide ((A.length : Int) = (B.length : Int)) = true := by rw [decI]; exact q3
      simp only [q1, q2, q3, q4, cond_false, Bool.not_true, e', Option.bind_some, Bool.true_and]
      cases allN (evQ A B) A.length <;> rfl
    · simp [h1, h1', h2, decI]
  · have h1' : (250 : Int) < (A.length : Int) := by omega
    simp [h1, h1']
theorem evI (A : List (List ActD)) (B : List (List Int)) (hl : A.length ≤ 1048576) (c : List AVal) (h2 : A.length = B.length) :
    Li_Shrink_0 (A.length : Int) 0 (A.map avActS) (B.map avIntS) c c c c = some (bif allN (evQ A B) A.length then .inr (A.map avActS, B.map avIntS, c, c, c, c) else .inl (1, [], [], [], [])) := by
  have e := loop_first (fun i => Li_Shrink_0 (A.length : Int) (i : Int) (A.map avActS) (B.map avIntS) c c c c) A.length (fun i => bif evQ A B i then none else some ((1 : Int), ([] : List AVal), ([] : List AVal), ([] : List AVal), ([] : List AVal))) (A.map avActS, B.map avIntS, c, c, c, c) (by
    refine li_Shrink_0 _ _ _ _ _ _ _ _ ?_
    simp) (fun i hi y hy => by
    refine li_Shrink_0 _ _ _ _ _ _ _ _ ?_
    have h0 : 0 < A.length := by omega
    have h0' : 0 < B.length := by omega
    have hi' : i < B.length := by omega
    unfold evQ at hy
    simp only [Int.toNat_natCast, List.length_map, getD_map' avActS [] hi, getD_map' avIntS [] hi', getD_map' avActS [] h0, getD_map' avIntS [] h0', e_actS, e_actSe, e_intS, e_intSe, lt_true hi, in_true hi', wrap_i (show i < 9000000000000000000 by omega), cond_true, decI,
      show decide ((0 : Int) < (A.length : Int)) = true from by simp; omega, show decide ((0 : Int) < (B.length : Int)) = true from by simp; omega]
    cases hp : decide ((A.getD i []).length = (A.getD 0 []).length) with
    | false => simp only [hp, Bool.false_and, cond_false, Bool.not_false, cond_true] at hy ⊢; exact hy
    | true =>
      cases hq : decide ((B.getD i []).length = (B.getD 0 []).length) <;> simp only [hp, hq, Bool.true_and, cond_false, cond_true, Bool.not_false, Bool.not_true] at hy ⊢ <;> exact hy) A.length 0 (by omega)
  have e' : Li_Shrink_0 (A.length : Int) 0 (A.map avActS) (B.map avIntS) c c c c = _ := e
  rw [e']
  have key : ∀ m i, firstF (fun j => bif evQ A B j then none else some ((1 : Int), ([] : List AVal), ([] : List AVal), ([] : List AVal), ([] : List AVal))) i m = bif (List.range' i m).all (evQ A B) then none else some ((1 : Int), ([] : List AVal), ([] : List AVal), ([] : List AVal), ([] : List AVal)) := by
    intro m
    induction m with
    | zero => intro i; rfl
    | succ m ih =>
      intro i
      simp only [firstF, List.range'_succ, List.all_cons]
      cases evQ A B i with
      | false => rfl
      | true => simp [ih]
  rw [key]
  unfold allN
  rw [List.range_eq_range']
  cases (List.range' 0 A.length).all (evQ A B) <;> rfl
end Go.Proofs.YtmbnloccmnclnaaDoor
