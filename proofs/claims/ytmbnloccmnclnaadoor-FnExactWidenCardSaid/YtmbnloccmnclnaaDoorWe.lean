/- The law Widen answers true at all plain arguments; no condition. -/
import Derived.Test.YtmbnloccmnclnaaDoorWd
namespace Go.Proofs.YtmbnloccmnclnaaDoor
open Go.VK AVal
def wdOK (A : List (List ActD)) (B : List (List Int)) (ar gr : List Int) : Bool := (List.range' 0 ar.length).all (okP A B ar gr)
def castL (l : List Nat) : List Int := l.map fun k : Nat => (k : Int)
/-- what the reference asks of the table that it has made -/
def wdQ (A : List (List ActD)) (B : List (List Int)) (ar gr : List Int) (ta : List (List ActD)) (tb : List (List Int)) : Bool :=
  evB ta tb && (decide ((pk ta).1.length = A.length) && (decide ((pk tb).1.length = B.length) && (decide (castL (pk ta).2 = ar) && decide (castL (pk tb).2 = gr))))
def wdR (A : List (List ActD)) (B : List (List Int)) (ar gr : List Int) : TableD × Int :=
  if decide (ar.length = gr.length) && (decide (ar.length ≤ 250) && (wdOK A B ar gr && wdQ A B ar gr (wdA A ar) (wdB B gr))) then ((wdA A ar, wdB B gr), 0) else (([], []), 10)
theorem wd_rows {α : Type} {A : List (List α)} (qa : rowsQ A) {ar : List Int} : rowsQ (ar.map fun r => A.getD r.toNat []) := fun r hr => by
  obtain ⟨x, _, rfl⟩ := List.mem_map.1 hr
  by_cases h : x.toNat < A.length
  · exact getD_memQ qa h
  · simp [List.getD_eq_getElem?_getD, List.getElem?_eq_none (Nat.le_of_not_lt h)]
theorem wd_mem {α : Type} {A : List (List α)} {ar : List Int} {r : List α} (h : r ∈ ar.map fun r => A.getD r.toNat []) : r = [] ∨ r ∈ A := by
  obtain ⟨x, _, rfl⟩ := List.mem_map.1 h
  by_cases h : x.toNat < A.length
  · exact .inr (getD_mem [] h)
  · left; simp [List.getD_eq_getElem?_getD, List.getElem?_eq_none (Nat.le_of_not_lt h)]
section
variable (A : List (List ActD)) (B : List (List Int)) (ar gr : List Int) (la : A.length ≤ 1048576) (lb : B.length ≤ 1048576) (qa : rowsQ A) (qb : rowsQ B)
include la lb qa qb in
theorem wdS (hra : ar.length ≤ 1048576) : Fs_Widen (A.map avActS) (B.map avIntS) (ar.map iv) (gr.map iv) = some ((wdR A B ar gr).1.1.map avActS, (wdR A B ar gr).1.2.map avIntS, (wdR A B ar gr).2) := by
  refine us_Widen _ _ _ _ ?_
  unfold wdR
  simp only [List.length_map, decI]
  by_cases h2 : ar.length = gr.length
  · by_cases hl : ar.length ≤ 250
    · have hl' : ¬ (250 : Int) < (ar.length : Int) := by omega
      have e := wdS_0 A B ar gr la lb qa qb hl h2 [] ar.length 0 (by omega)
      have e' : Ls_Widen_0 0 (A.map avActS) (B.map avIntS) (ar.map iv) (gr.map iv) [] [] [] [] = some (bif wdOK A B ar gr then .inr (A.map avActS, B.map avIntS, ar.map iv, gr.map iv, [], [], (wdA A ar).map aoActS, (wdB B gr).map aoIntS) else .inl (10, [], [])) := e
      have q1 : decide (ar.length = gr.length) = true := by simpa using h2
      have q2 : decide ((250 : Int) < (ar.length : Int)) = false := by simpa using hl'
      have q3 : decide (ar.length ≤ 250) = true := by simpa using hl
      simp only [q1, q2, q3, Bool.not_true, cond_false, e', Option.bind_some, Bool.true_and]
      cases wdOK A B ar gr with
      | false => simp [asRoL]
      | true =>
        have lta : (wdA A ar).length = ar.length := by simp [wdA]
        have ltb : (wdB B gr).length = gr.length := by simp [wdB]
        have rta : rowsQ (wdA A ar) := wd_rows qa
        have rtb : rowsQ (wdB B gr) := wd_rows qb
        have hpa := pk_len (wdA A ar)
        have hpb := pk_len (wdB B gr)
        have k1 := pkS (wdA A ar) (wdB B gr) (by omega) (by omega) rta rtb
        have k2 := evS (wdA A ar) (wdB B gr) (by omega)
        have k3 := samI (castL (pk (wdA A ar)).2) ar (by simp only [castL, List.length_map]; omega)
        have k4 := samI (castL (pk (wdB B gr)).2) gr (by simp only [castL, List.length_map]; omega)
        have c3 : (pk (wdA A ar)).2.map ni = (castL (pk (wdA A ar)).2).map iv := ni_map _
        have c4 : (pk (wdB B gr)).2.map ni = (castL (pk (wdB B gr)).2).map iv := ni_map _
        simp only [cond_true, Sum.elim_inr, asRoL_map2 asRo_ActS, asRoL_map2 asRo_IntS, k1, k2, Option.bind_some, List.length_map, c3, c4, k3, k4, wdQ, Bool.true_and]
        cases evB (wdA A ar) (wdB B gr) <;> cases decide ((pk (wdA A ar)).1.length = A.length) <;> cases decide ((pk (wdB B gr)).1.length = B.length) <;> cases decide (castL (pk (wdA A ar)).2 = ar) <;> cases decide (castL (pk (wdB B gr)).2 = gr) <;> rfl
    · have hl' : (250 : Int) < (ar.length : Int) := by omega
      have q1 : decide (ar.length = gr.length) = true := by simpa using h2
      have q2 : decide ((250 : Int) < (ar.length : Int)) = true := by simpa using hl'
      have q3 : decide (ar.length ≤ 250) = false := by simpa using hl
      simp only [q1, q2, q3, Bool.not_true, cond_false, cond_true, Bool.true_and, Bool.false_and]
      rfl
  · simp [h2]
/-! The program's check -/
include la qa in
theorem smA_0 (C : List (List ActD)) (qc : rowsQ C) (h : A.length = C.length) (ia : ∀ r ∈ A, ∀ a ∈ r, actQ a) (ic : ∀ r ∈ C, ∀ a ∈ r, actQ a) (b r1 r2 d r3 r4 : List AVal) :
    Li_samePacked_0 (A.length : Int) 0 (A.map avActS) b r1 r2 (C.map avActS) d r3 r4 = some (bif decide (A = C) then .inr (A.map avActS, b, r1, r2, C.map avActS, d, r3, r4) else .inl false) := by
  have e := loop_all (fun i => Li_samePacked_0 (A.length : Int) (i : Int) (A.map avActS) b r1 r2 (C.map avActS) d r3 r4) A.length (fun i => decide (A.getD i [] = C.getD i [])) (A.map avActS, b, r1, r2, C.map avActS, d, r3, r4) (by
    refine li_samePacked_0 _ _ _ _ _ _ _ _ _ _ ?_
    simp) (fun i hi y hy => by
    refine li_samePacked_0 _ _ _ _ _ _ _ _ _ _ ?_
    have hi' : i < C.length := by omega
    have k1 := aKeyF (A.getD i []) (getD_memQ qa hi) (ia _ (getD_mem [] hi))
    have k2 := aKeyF (C.getD i []) (getD_memQ qc hi') (ic _ (getD_mem [] hi'))
    have p : decide (aKey (A.getD i []) = aKey (C.getD i [])) = decide (A.getD i [] = C.getD i []) := by
      rw [Bool.eq_iff_iff]; simp only [decide_eq_true_eq]; exact ⟨aKey_inj _ _, fun e => by rw [e]⟩
    simp only [Int.toNat_natCast, List.length_map, lt_true hi, lt_true hi', d0_true, Bool.and_self, getD_map' avActS [] hi, getD_map' avActS [] hi', e_actS, e_actSe, k1, k2, Option.bind_some, wrap_i (show i < 9000000000000000000 by omega), cond_true, p]
    cases hp : decide (A.getD i [] = C.getD i []) <;> simp only [hp, cond_true, cond_false, Bool.not_true, Bool.not_false] at hy ⊢ <;> exact hy)
  rw [eq_allN [] h] at e
  exact e
include lb qb in
theorem smB_0 (D : List (List Int)) (qd : rowsQ D) (h : B.length = D.length) (ib : ∀ r ∈ B, ∀ a ∈ r, i64Q a) (id : ∀ r ∈ D, ∀ a ∈ r, i64Q a) (a r1 r2 c r3 r4 : List AVal) :
    Li_samePacked_1 (B.length : Int) 0 a (B.map avIntS) r1 r2 c (D.map avIntS) r3 r4 = some (bif decide (B = D) then .inr () else .inl false) := by
  have e := loop_all (fun i => Li_samePacked_1 (B.length : Int) (i : Int) a (B.map avIntS) r1 r2 c (D.map avIntS) r3 r4) B.length (fun i => decide (B.getD i [] = D.getD i [])) () (by
    refine li_samePacked_1 _ _ _ _ _ _ _ _ _ _ ?_
    simp) (fun i hi y hy => by
    refine li_samePacked_1 _ _ _ _ _ _ _ _ _ _ ?_
    have hi' : i < D.length := by omega
    have k1 := keyF (B.getD i []) (by have := getD_memQ qb hi; omega) (ib _ (getD_mem [] hi))
    have k2 := keyF (D.getD i []) (by have := getD_memQ qd hi'; omega) (id _ (getD_mem [] hi'))
    have p : decide (keyB (B.getD i []) = keyB (D.getD i [])) = decide (B.getD i [] = D.getD i []) := by
      rw [Bool.eq_iff_iff]; simp only [decide_eq_true_eq]; exact ⟨keyB_inj, fun e => by rw [e]⟩
    simp only [Int.toNat_natCast, List.length_map, lt_true hi, lt_true hi', d0_true, Bool.and_self, getD_map' avIntS [] hi, getD_map' avIntS [] hi', e_intS, e_intSe, k1, k2, Option.bind_some, wrap_i (show i < 9000000000000000000 by omega), cond_true, p]
    cases hp : decide (B.getD i [] = D.getD i []) <;> simp only [hp, cond_true, cond_false, Bool.not_true, Bool.not_false] at hy ⊢ <;> exact hy)
  rw [eq_allN [] h] at e
  exact e
def smQ (x y : PackedD) : Bool := decide (x.1.length = y.1.length) && (decide (x.2.1.length = y.2.1.length) && (decide (x.2.2.1 = y.2.2.1) && (decide (x.2.2.2 = y.2.2.2) && (decide (x.1 = y.1) && decide (x.2.1 = y.2.1)))))
include la lb qa qb in
theorem sm (C : List (List ActD)) (D : List (List Int)) (cr dr : List Int) (qc : rowsQ C) (qd : rowsQ D) (ia : ∀ r ∈ A, ∀ a ∈ r, actQ a) (ic : ∀ r ∈ C, ∀ a ∈ r, actQ a) (ib : ∀ r ∈ B, ∀ a ∈ r, i64Q a) (id : ∀ r ∈ D, ∀ a ∈ r, i64Q a)
    (l1 : ar.length ≤ 4000000) (l2 : gr.length ≤ 4000000) (l3 : cr.length ≤ 4000000) (l4 : dr.length ≤ 4000000) (i1 : ∀ a ∈ ar, i64Q a) (i2 : ∀ a ∈ gr, i64Q a) (i3 : ∀ a ∈ cr, i64Q a) (i4 : ∀ a ∈ dr, i64Q a) :
    Fi_samePacked (A.map avActS) (B.map avIntS) (ar.map iv) (gr.map iv) (C.map avActS) (D.map avIntS) (cr.map iv) (dr.map iv) = some (smQ (A, B, ar, gr) (C, D, cr, dr)) := by
  refine ui_samePacked _ _ _ _ _ _ _ _ ?_
  have kp : ∀ {x y : List Int}, decide (keyB x = keyB y) = decide (x = y) := fun {x y} => by
    rw [Bool.eq_iff_iff]; simp only [decide_eq_true_eq]; exact ⟨keyB_inj, fun e => by rw [e]⟩
  unfold smQ
  simp only [List.length_map, decI, keyF ar l1 i1, keyF gr l2 i2, keyF cr l3 i3, keyF dr l4 i4, Option.bind_some, kp]
  by_cases h1 : A.length = C.length
  · by_cases h2 : B.length = D.length
    · simp only [h1, h2, decide_true, Bool.not_true, cond_false, Bool.true_and]
      have e1 := smA_0 A la qa C qc h1 ia ic (B.map avIntS) (ar.map iv) (gr.map iv) (D.map avIntS) (cr.map iv) (dr.map iv)
      have e2 := smB_0 B lb qb D qd h2 ib id (A.map avActS) (ar.map iv) (gr.map iv) (C.map avActS) (cr.map iv) (dr.map iv)
      rw [h1] at e1
      rw [h2] at e2
      rw [e1]
      cases decide (ar = cr) <;> cases decide (gr = dr) <;> cases decide (A = C) <;> simp [h2, e2] <;> cases decide (B = D) <;> rfl
    · simp [h1, h2]
  · simp [h1]
theorem ix_le {α : Type} [DecidableEq α] (x : α) (l : List α) : ix x l ≤ l.length := by
  by_cases h : x ∈ l
  · exact Nat.le_of_lt (ix_lt h)
  · exact Nat.le_of_eq (ix_no h)
theorem cast_rng {α : Type} [DecidableEq α] (xs : List α) (h : xs.length ≤ 1048576) : ∀ a ∈ castL (pk xs).2, i64Q a := fun a ha => by
  unfold castL at ha
  obtain ⟨k, hk, rfl⟩ := List.mem_map.1 ha
  rw [pk_rows] at hk
  obtain ⟨x, _, rfl⟩ := List.mem_map.1 hk
  have h1 := ix_le x (pk xs).1
  have h2 := (pk_len xs).2
  exact ⟨by omega, by omega⟩
theorem wd_range (hok : wdOK A B ar gr = true) (h2 : ar.length = gr.length) : (∀ r ∈ ar, 0 ≤ r ∧ r < (A.length : Int)) ∧ ∀ r ∈ gr, 0 ≤ r ∧ r < (B.length : Int) := by
  have key : ∀ i, i < ar.length → okP A B ar gr i = true := fun i hi => List.all_eq_true.1 hok i (by simp [List.mem_range'_1]; omega)
  refine ⟨fun r hr => ?_, fun r hr => ?_⟩
  · obtain ⟨i, hi⟩ := List.getElem?_of_mem hr
    have hlt : i < ar.length := (List.getElem?_eq_some_iff.1 hi).1
    have := key i hlt
    simp only [okP, Bool.and_eq_true, decide_eq_true_eq, List.getD_eq_getElem?_getD, hi, Option.getD_some] at this
    exact ⟨this.1, this.2.1⟩
  · obtain ⟨i, hi⟩ := List.getElem?_of_mem hr
    have hlt : i < gr.length := (List.getElem?_eq_some_iff.1 hi).1
    have := key i (by omega)
    simp only [okP, Bool.and_eq_true, decide_eq_true_eq, List.getD_eq_getElem?_getD (l := gr), hi, Option.getD_some] at this
    exact ⟨this.2.2.1, this.2.2.2⟩
theorem wd_same (hok : wdOK A B ar gr = true) (h2 : ar.length = gr.length) (ev : evB (wdA A ar) (wdB B gr) = true) :
    smQ (A, B, ar, gr) ((pk (wdA A ar)).1, (pk (wdB B gr)).1, castL (pk (wdA A ar)).2, castL (pk (wdB B gr)).2) = wdQ A B ar gr (wdA A ar) (wdB B gr) := by
  obtain ⟨ra, rb⟩ := wd_range A B ar gr hok h2
  unfold smQ wdQ
  rw [ev, Bool.eq_iff_iff]
  simp only [Bool.and_eq_true, decide_eq_true_eq, true_and]
  constructor
  · rintro ⟨h1, h2, h3, h4, _, _⟩
    exact ⟨h1.symm, h2.symm, h3.symm, h4.symm⟩
  · rintro ⟨h1, h2, h3, h4⟩
    exact ⟨h1.symm, h2.symm, h3.symm, h4.symm, (pk_back A [] ar ra h1 h3).symm, (pk_back B [] gr rb h2 h4).symm⟩
include la lb qa qb in
theorem wdI (hra : ar.length ≤ 1048576) (ia : ∀ r ∈ A, ∀ a ∈ r, actQ a) (ib : ∀ r ∈ B, ∀ a ∈ r, i64Q a) (i1 : ∀ a ∈ ar, i64Q a) (i2 : ∀ a ∈ gr, i64Q a) :
    Fi_Widen (A.map avActS) (B.map avIntS) (ar.map iv) (gr.map iv) = some ((wdR A B ar gr).1.1.map aoActS, (wdR A B ar gr).1.2.map aoIntS, (wdR A B ar gr).2) := by
  refine ui_Widen _ _ _ _ ?_
  unfold wdR
  simp only [List.length_map, decI]
  by_cases h2 : ar.length = gr.length
  · by_cases hl : ar.length ≤ 250
    · have hl' : ¬ (250 : Int) < (ar.length : Int) := by omega
      have e := wdI_0 A B ar gr qa qb hl h2 [] ar.length 0 (by omega)
      have e' : Li_Widen_0 (ar.length : Int) 0 (A.map avActS) (B.map avIntS) (ar.map iv) (gr.map iv) [] [] [] [] = some (bif wdOK A B ar gr then .inr (A.map avActS, B.map avIntS, ar.map iv, gr.map iv, [], [], (wdA A ar).map aoActS, (wdB B gr).map aoIntS) else .inl (10, [], [])) := e
      have q1 : decide (ar.length = gr.length) = true := by simpa using h2
      have q2 : decide ((250 : Int) < (ar.length : Int)) = false := by simpa using hl'
      have q3 : decide (ar.length ≤ 250) = true := by simpa using hl
      simp only [q1, q2, q3, Bool.not_true, cond_false, e', Option.bind_some, Bool.true_and]
      cases hok : wdOK A B ar gr with
      | false => simp
      | true =>
        have lta : (wdA A ar).length = ar.length := by simp [wdA]
        have ltb : (wdB B gr).length = gr.length := by simp [wdB]
        have rta : rowsQ (wdA A ar) := wd_rows qa
        have rtb : rowsQ (wdB B gr) := wd_rows qb
        have ita : ∀ r ∈ wdA A ar, ∀ a ∈ r, actQ a := fun r hr a ha => by
          rcases wd_mem hr with rfl | h
          · simp at ha
          · exact ia r h a ha
        have itb : ∀ r ∈ wdB B gr, ∀ a ∈ r, i64Q a := fun r hr a ha => by
          rcases wd_mem hr with rfl | h
          · simp at ha
          · exact ib r h a ha
        have hpa := pk_len (wdA A ar)
        have hpb := pk_len (wdB B gr)
        have k1 := shI (wdA A ar) (wdB B gr) (by omega) rta rtb ita itb
        simp only [cond_true, Sum.elim_inr, asRoL_map2 asRo_ActS, asRoL_map2 asRo_IntS, k1, Option.bind_some, noRoL_map noRo_ActS, noRoL_map noRo_IntS, noRoL_map noRo_iv, Bool.and_self, asRoL_map asRo_iv, Bool.true_and]
        unfold shR
        cases hev : evB (wdA A ar) (wdB B gr) with
        | false => simp [wdQ, hev]
        | true =>
          have k2 := sm A B ar gr la lb qa qb (pk (wdA A ar)).1 (pk (wdB B gr)).1 (castL (pk (wdA A ar)).2) (castL (pk (wdB B gr)).2) (fun r hr => rta r (pk_sub _ r hr)) (fun r hr => rtb r (pk_sub _ r hr)) ia (fun r hr => ita r (pk_sub _ r hr)) ib (fun r hr => itb r (pk_sub _ r hr))
            (by omega) (by omega) (by simp only [castL, List.length_map]; omega) (by simp only [castL, List.length_map]; omega) i1 i2 (cast_rng _ (by omega)) (cast_rng _ (by omega))
          have k3 := wd_same A B ar gr hok h2 hev
          unfold castL at k2 k3
          simp only [if_true, decide_true, Bool.not_true, cond_false, k2, Option.bind_some, k3]
          cases wdQ A B ar gr (wdA A ar) (wdB B gr) <;> rfl
    · have hl' : (250 : Int) < (ar.length : Int) := by omega
      have q1 : decide (ar.length = gr.length) = true := by simpa using h2
      have q2 : decide ((250 : Int) < (ar.length : Int)) = true := by simpa using hl'
      have q3 : decide (ar.length ≤ 250) = false := by simpa using hl
      simp only [q1, q2, q3, Bool.not_true, cond_false, cond_true, Bool.true_and, Bool.false_and]
      rfl
  · simp [h2]
end
theorem tot_leA (A : List (List ActD)) (h : rowsQ A) : totActS A ≤ A.length * 1048576 := by
  induction A with
  | nil => simp [totActS]
  | cons r A ih =>
    have h1 := h r (by simp)
    have h2 := ih fun y hy => h y (by simp [hy])
    simp only [totActS, List.length_cons]; omega
theorem tot_leB (B : List (List Int)) (h : rowsQ B) : totIntS B ≤ B.length * 1048576 := by
  induction B with
  | nil => simp [totIntS]
  | cons r B ih =>
    have h1 := h r (by simp)
    have h2 := ih fun y hy => h y (by simp [hy])
    simp only [totIntS, List.length_cons]; omega
theorem wdR_ok (A : List (List ActD)) (B : List (List Int)) (ar gr : List Int) (qa : rowsQ A) (qb : rowsQ B) : szTable (wdR A B ar gr).1 ≤ 600000000 := by
  unfold wdR
  split
  · rename_i h
    simp only [Bool.and_eq_true, decide_eq_true_eq] at h
    have h1 := tot_leA (wdA A ar) (wd_rows qa)
    have h2 := tot_leB (wdB B gr) (wd_rows qb)
    have l1 : (wdA A ar).length = ar.length := by simp [wdA]
    have l2 : (wdB B gr).length = gr.length := by simp [wdB]
    unfold szTable szActSS szIntSS
    simp only
    have : (wdA A ar).length ≤ 250 := by omega
    have : (wdB B gr).length ≤ 250 := by omega
    have := Nat.mul_le_mul_right 1048576 (show (wdA A ar).length ≤ 250 by omega)
    have := Nat.mul_le_mul_right 1048576 (show (wdB B gr).length ≤ 250 by omega)
    omega
  · simp [szTable, szActSS, szIntSS, totActS, totIntS]
theorem lawWd (A : List (List ActD)) (B : List (List Int)) (ar gr : List Int) (hw : wfPacked (A, B, ar, gr)) (ia : ∀ r ∈ A, ∀ a ∈ r, actQ a) (ib : ∀ r ∈ B, ∀ a ∈ r, i64Q a) (i1 : ∀ a ∈ ar, i64Q a) (i2 : ∀ a ∈ gr, i64Q a) :
    Fl_FnExactWiden (A.map avActS) (B.map avIntS) (ar.map iv) (gr.map iv) = some true := by
  refine ul_FnExactWiden _ _ _ _ ?_
  have h0 := tzPacked (A, B, ar, gr) 1048576 hw (by omega) (by omega)
  simp only at h0
  simp only [h0, Option.bind_some]
  by_cases g : szR 1048576 (szPacked (A, B, ar, gr)) < 0
  · simp [g]
  · have hs : szPacked (A, B, ar, gr) ≤ 1048576 := by have := szR_nn g; omega
    have hab := hs
    unfold szPacked at hab
    simp only at hab
    have sa : szActSS A ≤ 1048576 := by omega
    have sb : szIntSS B ≤ 1048576 := by omega
    have la : A.length ≤ 1048576 := by unfold szActSS at sa; omega
    have lb : B.length ≤ 1048576 := by unfold szIntSS at sb; omega
    have e1 := toPacked (A, B, ar, gr) (by omega)
    have e2 := eqPacked (A, B, ar, gr) (by omega)
    have q1 := cntActSS_le A
    have q2 := cntIntSS_le B
    have e3 := mrPacked (A, B, ar, gr) 1 (by omega) (by omega) (by simp only; omega)
    simp only at e1 e2 e3
    have es := wdS A B ar gr la lb (rowsA sa) (rowsB sb) (by omega)
    have ei := wdI A B ar gr la lb (rowsA sa) (rowsB sb) (by omega) ia ib i1 i2
    have ok := wdR_ok A B ar gr (rowsA sa) (rowsB sb)
    generalize wdR A B ar gr = v at es ei ok
    obtain ⟨⟨x, y⟩, c⟩ := v
    simp only at es ei ok
    have q3 := cntActSS_le x
    have q4 := cntIntSS_le y
    have hxy := ok
    unfold szTable at hxy
    simp only at hxy
    have m0 := eqTable (x, y) (by omega)
    have m1 := mrTable (x, y) 1 (by omega) (by omega) (by simp only; omega)
    have m2 := hdTable (x, y) 1 (by omega) (by omega) (by simp only; omega)
    simp only at m0 m1 m2
    have n1 : ¬ (1 + ((cntActSS A : Nat) : Int) + ((cntIntSS B : Nat) : Int) + ((ar.length : Nat) : Int) + ((gr.length : Nat) : Int) < 0) := by omega
    have n2 : ¬ (1 + ((cntActSS x : Nat) : Int) + ((cntIntSS y : Nat) : Int) < 0) := by omega
    simp only [g, decide_false, cond_false, e1, e2, e3, Option.bind_some, asRoL_map2 asRo_ActS, asRoL_map2 asRo_IntS, asRoL_map asRo_iv, es, ei, noRoL_map noRo_ActS, noRoL_map noRo_IntS, Bool.and_self, cond_true, m0, m1, m2, Bool.not_true, decide_true, n1, n2]
theorem lawWiden : ∀ xs, FitsL ctx [ty_laws_Packed] xs → ∃ k, vcall ctx k n_l_FnExactWiden xs [] = some ([.bool true], []) := by
  intro xs h
  obtain ⟨x, r, rfl, h1, h⟩ := h.cons'
  obtain rfl := h.nil'
  have hr := fits_rng h1
  obtain ⟨⟨A, B, ar, gr⟩, rfl, w1⟩ := fitPacked h1
  simp only [avPacked, rngQ, rngL, Bool.and_true, Bool.and_eq_true] at hr
  exact law_of (S := sgl_FnExactWiden) (a := (A.map avActS, B.map avIntS, ar.map iv, gr.map iv)) (lawWd A B ar gr w1 (rng_acts hr.1) (rng_ints hr.2.1) (fun a ha => rng_int (rng_map hr.2.2.1 a ha)) (fun a ha => rng_int (rng_map hr.2.2.2 a ha))) rfl rfl
end Go.Proofs.YtmbnloccmnclnaaDoor
