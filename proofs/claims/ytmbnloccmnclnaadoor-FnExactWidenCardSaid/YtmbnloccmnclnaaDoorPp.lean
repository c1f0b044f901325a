/- Tables whose rows are told once: what Shrink gives; tables that are not too large, numbers that fit into 64 bits. -/
import Derived.Test.YtmbnloccmnclnaaDoorPk
namespace Go.Proofs.YtmbnloccmnclnaaDoor
open Go.VK AVal
def ni (k : Nat) : AVal := iv (k : Int)
theorem asRo_ni (k : Nat) : asRo (ni k) = ni k := asRo_iv _
theorem noRo_ni (k : Nat) : noRo (ni k) = true := noRo_iv _
def rowsQ {α : Type} (xs : List (List α)) : Prop := ∀ r ∈ xs, r.length ≤ 1048576
theorem srchA (A : List (List ActD)) (B : List (List Int)) (s : Nat) (hs : s < A.length) (c0 c1 c2 c3 g r1 r2 : List AVal) : ∀ (suf pre : List (List ActD)), (pre ++ suf).length ≤ 1048576 → rowsQ (pre ++ suf) →
    Ls_l05Pack_1 (s : Int) (pre.length : Int) (A.map avActS) (B.map avIntS) c0 c1 c2 c3 ((pre ++ suf).map aoActS) g r1 r2 = some ((s : Int), ((pre.length + ix (A.getD s []) suf : Nat) : Int), A.map avActS, B.map avIntS, c0, c1, c2, c3, (pre ++ suf).map aoActS, g, r1, r2)
  | [], pre, hl, hq => by
    refine ls_l05Pack_1 _ _ _ _ _ _ _ _ _ _ _ _ ?_
    simp [ix_nil]
  | y :: suf, pre, hl, hq => by
    have hm := mid_len pre suf y
    have hy := hq y (by simp)
    have ih := srchA A B s hs c0 c1 c2 c3 g r1 r2 suf (pre ++ [y]) (by simpa using hl) (by simpa using hq)
    simp only [List.append_assoc, List.cons_append, List.nil_append] at ih
    rw [show (pre ++ [y]).length = pre.length + 1 by simp] at ih
    have e1 : slQ (aoActS y) = true := rfl
    have e2 : CT.shape (.slice 2) (aoActS y) = true := rfl
    have e3 : CT.shro (.slice 2) (asRo (aoActS y)) = true := by rw [asRo_ActS]; rfl
    have e4 : (asRo (aoActS y)).elems = y.map avAct := by rw [asRo_ActS]; rfl
    refine ls_l05Pack_1 _ _ _ _ _ _ _ _ _ _ _ _ ?_
    simp only [Int.toNat_natCast, map_mid, List.length_map, e1, e2, e3, e4, blt_true hm, dlt_true hm, d0_true, dlt_true hs, Bool.and_self, Bool.or_true, getD_map' avActS [] hs, e_actS, e_actSe, wrap_succ hm (by omega), cond_true, samA y _ hy, Option.bind_some, ih, ix_cons]
    by_cases hyx : y = A.getD s []
    · simp only [hyx, decide_true, Bool.not_true, cond_false, if_true, Nat.add_zero]
    · simp only [hyx, decide_false, Bool.not_false, cond_true, if_false]
      simp; omega
theorem srchB (A : List (List ActD)) (B : List (List Int)) (s : Nat) (hs : s < B.length) (c0 c1 c2 c3 g r1 r2 : List AVal) : ∀ (suf pre : List (List Int)), (pre ++ suf).length ≤ 1048576 → rowsQ (pre ++ suf) →
    Ls_l05Pack_2 (s : Int) (pre.length : Int) (A.map avActS) (B.map avIntS) c0 c1 c2 c3 g ((pre ++ suf).map aoIntS) r1 r2 = some ((s : Int), ((pre.length + ix (B.getD s []) suf : Nat) : Int), A.map avActS, B.map avIntS, c0, c1, c2, c3, g, (pre ++ suf).map aoIntS, r1, r2)
  | [], pre, hl, hq => by
    refine ls_l05Pack_2 _ _ _ _ _ _ _ _ _ _ _ _ ?_
    simp [ix_nil]
  | y :: suf, pre, hl, hq => by
    have hm := mid_len pre suf y
    have hy := hq y (by simp)
    have ih := srchB A B s hs c0 c1 c2 c3 g r1 r2 suf (pre ++ [y]) (by simpa using hl) (by simpa using hq)
    simp only [List.append_assoc, List.cons_append, List.nil_append] at ih
    rw [show (pre ++ [y]).length = pre.length + 1 by simp] at ih
    have e1 : slQ (aoIntS y) = true := rfl
    have e2 : CT.shape (.slice 1) (aoIntS y) = true := rfl
    have e3 : CT.shro (.slice 1) (asRo (aoIntS y)) = true := by rw [asRo_IntS]; rfl
    have e4 : (asRo (aoIntS y)).elems = y.map iv := by rw [asRo_IntS]; rfl
    refine ls_l05Pack_2 _ _ _ _ _ _ _ _ _ _ _ _ ?_
    simp only [Int.toNat_natCast, map_mid, List.length_map, e1, e2, e3, e4, blt_true hm, dlt_true hm, d0_true, dlt_true hs, Bool.and_self, Bool.or_true, getD_map' avIntS [] hs, e_intS, e_intSe, wrap_succ hm (by omega), cond_true, samI y _ hy, Option.bind_some, ih, ix_cons]
    by_cases hyx : y = B.getD s []
    · simp only [hyx, decide_true, Bool.not_true, cond_false, if_true, Nat.add_zero]
    · simp only [hyx, decide_false, Bool.not_false, cond_true, if_false]
      simp; omega
section
variable {α : Type} [DecidableEq α]
theorem take_step (xs : List α) (d : α) {i : Nat} (h : i < xs.length) : pk (xs.take (i + 1)) = pkStep (pk (xs.take i)) (xs.getD i d) := by
  rw [List.take_add_one, ← pk_snoc]
  simp [List.getD_eq_getElem?_getD, h]
theorem take_len (xs : List α) (i : Nat) : (pk (xs.take i)).1.length ≤ i ∧ (pk (xs.take i)).2.length ≤ i := by
  have h := pk_len (xs.take i)
  simp only [List.length_take] at h
  omega
theorem take_sub (xs : List α) (i : Nat) : ∀ y ∈ (pk (xs.take i)).1, y ∈ xs := fun y hy => List.mem_of_mem_take (pk_sub _ y hy)
end
theorem getD_memQ {α : Type} {A : List (List α)} (h : rowsQ A) {i : Nat} (hi : i < A.length) : (A.getD i []).length ≤ 1048576 := h _ (getD_mem [] hi)
theorem pkS_0 (A : List (List ActD)) (B : List (List Int)) (hl : A.length ≤ 1048576) (h2 : A.length = B.length) (qa : rowsQ A) (qb : rowsQ B) (c0 c1 c2 c3 : List AVal) : ∀ m i, i + m = A.length →
    Ls_l05Pack_0 (i : Int) (A.map avActS) (B.map avIntS) c0 c1 c2 c3 ((pk (A.take i)).1.map aoActS) ((pk (B.take i)).1.map aoIntS) ((pk (A.take i)).2.map ni) ((pk (B.take i)).2.map ni) =
      some (c0, c1, c2, c3, (pk A).1.map aoActS, (pk B).1.map aoIntS, (pk A).2.map ni, (pk B).2.map ni)
  | 0, i, h => by
    obtain rfl : i = A.length := by omega
    refine ls_l05Pack_0 _ _ _ _ _ _ _ _ _ _ _ ?_
    rw [List.take_length, show B.take A.length = B by rw [h2, List.take_length]]
    simp
  | m + 1, i, h => by
    have hi : i < A.length := by omega
    have hi' : i < B.length := by omega
    have ih := pkS_0 A B hl h2 qa qb c0 c1 c2 c3 m (i + 1) (by omega)
    rw [take_step A [] hi, take_step B [] hi'] at ih
    have la := take_len A i
    have lb := take_len B i
    have sa := take_sub A i
    have sb := take_sub B i
    generalize pk (A.take i) = pa at ih la sa ⊢
    generalize pk (B.take i) = pb at ih lb sb ⊢
    obtain ⟨da, ra⟩ := pa
    obtain ⟨db, rb⟩ := pb
    simp only at la lb sa sb
    have ra' := getD_memQ qa hi
    have rb' := getD_memQ qb hi'
    have ca1 : capB (0 + ((A.getD i []).map avAct).length) 16 = true := capB_le (by rw [List.length_map]; omega)
    have cb1 : capB (0 + ((B.getD i []).map iv).length) 8 = true := capB_le (by rw [List.length_map]; omega)
    have ca2 : capB (da.length + 1) 24 = true := capB_le (by omega)
    have cb2 : capB (db.length + 1) 24 = true := capB_le (by omega)
    have ca3 : capB (ra.length + 1) 8 = true := capB_le (by omega)
    have cb3 : capB (rb.length + 1) 8 = true := capB_le (by omega)
    rw [List.length_map] at ca1 cb1
    have s1 := srchA A B i hi c0 c1 c2 c3 (db.map aoIntS) (ra.map ni) (rb.map ni) da [] (by simp; omega) (fun y hy => qa y (sa y (by simpa using hy)))
    simp only [List.nil_append, List.length_nil, Nat.zero_add] at s1
    have s1' : Ls_l05Pack_1 (i : Int) 0 (A.map avActS) (B.map avIntS) c0 c1 c2 c3 (da.map aoActS) (db.map aoIntS) (ra.map ni) (rb.map ni) = _ := s1
    have s2 : ∀ g r, Ls_l05Pack_2 (i : Int) 0 (A.map avActS) (B.map avIntS) c0 c1 c2 c3 g (db.map aoIntS) r (rb.map ni) = _ := fun g r => by
      have s2 := srchB A B i hi' c0 c1 c2 c3 g r (rb.map ni) db [] (by simp; omega) (fun y hy => qb y (sb y (by simpa using hy)))
      simp only [List.nil_append, List.length_nil, Nat.zero_add] at s2
      exact s2
    have ea : da.map aoActS ++ [.own 2 ((A.getD i []).map avAct)] = (da ++ [A.getD i []]).map aoActS := by simp [aoActS]
    have eb : db.map aoIntS ++ [.own 1 ((B.getD i []).map iv)] = (db ++ [B.getD i []]).map aoIntS := by simp [aoIntS]
    have er : ∀ (r : List Nat) (k : Nat), r.map ni ++ [.int .i64 (k : Int)] = (r ++ [k]).map ni := fun r k => by simp [ni, iv]
    refine ls_l05Pack_0 _ _ _ _ _ _ _ _ _ _ _ ?_
    simp only [pkStep] at ih
    simp only [Int.toNat_natCast, List.length_map, lt_true hi, lt_true hi', getD_map' avActS [] hi, getD_map' avIntS [] hi', e_actS, e_actSe, e_intS, e_intSe, wrap_i (show i < 9000000000000000000 by omega), d0_true, Bool.and_self, cond_true, Option.bind_some, s1', s2, ca1, ca2, ca3, cb1, cb2, cb3, ea, eb, er, Bnd, decI]
    by_cases ga : ix (A.getD i []) da = da.length <;> by_cases gb : ix (B.getD i []) db = db.length <;>
      simp only [ga, gb, decide_true, decide_false, cond_true, cond_false, if_true, if_false] at ih ⊢ <;> exact ih
theorem pkS (A : List (List ActD)) (B : List (List Int)) (hl : A.length ≤ 1048576) (h2 : A.length = B.length) (qa : rowsQ A) (qb : rowsQ B) :
    Fs_l05Pack (A.map avActS) (B.map avIntS) = some ((pk A).1.map avActS, (pk B).1.map avIntS, (pk A).2.map ni, (pk B).2.map ni) := by
  refine us_l05Pack _ _ ?_
  have e := pkS_0 A B hl h2 qa qb [] [] [] [] A.length 0 (by omega)
  have e' : Ls_l05Pack_0 0 (A.map avActS) (B.map avIntS) [] [] [] [] [] [] [] [] = _ := e
  simp only [e', Option.bind_some, asRoL_map2 asRo_ActS, asRoL_map2 asRo_IntS, asRoL_map asRo_ni]
/-! The program's way -/
theorem dk_look {α : Type} [DecidableEq α] (f : α → ByteArray) (hf : ∀ a b, f a = f b → a = b) (x : α) (l : List α) (hn : l.Nodup) :
    mpGet (kcode (.str (f x))) (dS (dkF f 0 l)) = (if ix x l = l.length then none else some (iv (ix x l : Int))) := by
  rw [dS_get, dk_get f hf x l hn]
  split <;> rfl
theorem dk_put {α : Type} [DecidableEq α] (f : α → ByteArray) (x : α) (l : List α) : mpIns (.str (f x)) (.int .i64 (l.length : Int)) (dS (dkF f 0 l)) = dS (dkF f 0 (l ++ [x])) := by
  rw [dkF_snoc, dS_snoc, Nat.zero_add]; rfl
theorem pkI_0 (A : List (List ActD)) (B : List (List Int)) (hl : A.length ≤ 1048576) (h2 : A.length = B.length) (qa : rowsQ A) (qb : rowsQ B) (ia : ∀ r ∈ A, ∀ a ∈ r, actQ a) (ib : ∀ r ∈ B, ∀ a ∈ r, i64Q a) (c0 c1 c2 c3 : List AVal) : ∀ m i, i + m = A.length →
    Li_Shrink_1 (A.length : Int) (i : Int) (A.map avActS) (B.map avIntS) c0 c1 c2 c3 ((pk (A.take i)).1.map aoActS) ((pk (B.take i)).1.map aoIntS) ((pk (A.take i)).2.map ni) ((pk (B.take i)).2.map ni) (dS (dkF aKey 0 (pk (A.take i)).1)) (dS (dkF keyB 0 (pk (B.take i)).1)) =
      some (c0, c1, c2, c3, (pk A).1.map aoActS, (pk B).1.map aoIntS, (pk A).2.map ni, (pk B).2.map ni)
  | 0, i, h => by
    obtain rfl : i = A.length := by omega
    refine li_Shrink_1 _ _ _ _ _ _ _ _ _ _ _ _ _ _ ?_
    rw [List.take_length, show B.take A.length = B by rw [h2, List.take_length]]
    simp
  | m + 1, i, h => by
    have hi : i < A.length := by omega
    have hi' : i < B.length := by omega
    have ih := pkI_0 A B hl h2 qa qb ia ib c0 c1 c2 c3 m (i + 1) (by omega)
    rw [take_step A [] hi, take_step B [] hi'] at ih
    have la := take_len A i
    have lb := take_len B i
    have na := pk_nodup (A.take i)
    have nb := pk_nodup (B.take i)
    generalize pk (A.take i) = pa at ih la na ⊢
    generalize pk (B.take i) = pb at ih lb nb ⊢
    obtain ⟨da, ra⟩ := pa
    obtain ⟨db, rb⟩ := pb
    simp only at la lb na nb
    have ra' := getD_memQ qa hi
    have rb' := getD_memQ qb hi'
    have ca1 : capB (0 + ((A.getD i []).map avAct).length) 16 = true := capB_le (by rw [List.length_map]; omega)
    have cb1 : capB (0 + ((B.getD i []).map iv).length) 8 = true := capB_le (by rw [List.length_map]; omega)
    have ca2 : capB (da.length + 1) 24 = true := capB_le (by omega)
    have cb2 : capB (db.length + 1) 24 = true := capB_le (by omega)
    have ca3 : capB (ra.length + 1) 8 = true := capB_le (by omega)
    have cb3 : capB (rb.length + 1) 8 = true := capB_le (by omega)
    rw [List.length_map] at ca1 cb1
    have ka := aKeyF (A.getD i []) ra' (ia _ (getD_mem [] hi))
    have kb := keyF (B.getD i []) (by omega) (ib _ (getD_mem [] hi'))
    have ga := dk_look aKey aKey_inj (A.getD i []) da na
    have gb := dk_look keyB (fun _ _ h => keyB_inj h) (B.getD i []) db nb
    have ea : da.map aoActS ++ [.own 2 ((A.getD i []).map avAct)] = (da ++ [A.getD i []]).map aoActS := by simp [aoActS]
    have eb : db.map aoIntS ++ [.own 1 ((B.getD i []).map iv)] = (db ++ [B.getD i []]).map aoIntS := by simp [aoIntS]
    have er : ∀ (r : List Nat) (k : Nat), r.map ni ++ [.int .i64 (k : Int)] = (r ++ [k]).map ni := fun r k => by simp [ni, iv]
    have shz : ∀ o : Option AVal, (o = none ∨ ∃ n, o = some (iv n)) → CT.shape (.int .i64) (o.getD (.int .i64 0)) = true := fun o ho => by rcases ho with rfl | ⟨n, rfl⟩ <;> rfl
    refine li_Shrink_1 _ _ _ _ _ _ _ _ _ _ _ _ _ _ ?_
    simp only [pkStep] at ih
    simp only [Int.toNat_natCast, List.length_map, lt_true hi, lt_true hi', getD_map' avActS [] hi, getD_map' avIntS [] hi', e_actS, e_actSe, e_intS, e_intSe, wrap_i (show i < 9000000000000000000 by omega), d0_true, Bool.and_self, cond_true, Option.bind_some, ka, kb, ga, gb, ca1, ca2, ca3, cb1, cb2, cb3, ea, eb, er, Bnd, dk_put]
    by_cases za : ix (A.getD i []) da = da.length <;> by_cases zb : ix (B.getD i []) db = db.length <;>
      simp only [za, zb, if_true, if_false, shz _ (.inl rfl), Option.isSome_none, Option.isSome_some, Option.getD_some, Bool.not_true, Bool.not_false, cond_true, cond_false, e_toInt, er] at ih ⊢ <;> exact ih
def shR (A : List (List ActD)) (B : List (List Int)) : PackedD × Int := if evB A B then (((pk A).1, (pk B).1, (pk A).2.map fun k : Nat => (k : Int), (pk B).2.map fun k : Nat => (k : Int)), 0) else (([], [], [], []), 1)
theorem ni_map (l : List Nat) : l.map ni = (l.map fun k : Nat => (k : Int)).map iv := by rw [List.map_map]; rfl
theorem shS (A : List (List ActD)) (B : List (List Int)) (hl : A.length ≤ 1048576) (qa : rowsQ A) (qb : rowsQ B) :
    Fs_Shrink (A.map avActS) (B.map avIntS) = some ((shR A B).1.1.map avActS, (shR A B).1.2.1.map avIntS, (shR A B).1.2.2.1.map iv, (shR A B).1.2.2.2.map iv, (shR A B).2) := by
  refine us_Shrink _ _ ?_
  simp only [evS A B hl, Option.bind_some]
  unfold shR
  by_cases g : evB A B = true
  · have h2 : A.length = B.length := by unfold evB at g; simp only [Bool.and_eq_true, decide_eq_true_eq] at g; exact g.2.1
    simp only [g, Bool.not_true, cond_false, pkS A B hl h2 qa qb, Option.bind_some, if_true, ni_map]
  · simp [g]
theorem shI (A : List (List ActD)) (B : List (List Int)) (hl : A.length ≤ 1048576) (qa : rowsQ A) (qb : rowsQ B) (ia : ∀ r ∈ A, ∀ a ∈ r, actQ a) (ib : ∀ r ∈ B, ∀ a ∈ r, i64Q a) :
    Fi_Shrink (A.map avActS) (B.map avIntS) = some ((shR A B).1.1.map aoActS, (shR A B).1.2.1.map aoIntS, (shR A B).1.2.2.1.map iv, (shR A B).1.2.2.2.map iv, (shR A B).2) := by
  refine ui_Shrink _ _ ?_
  unfold shR evB
  by_cases h1 : A.length ≤ 250
  · have q1 : decide ((250 : Int) < (A.length : Int)) = false := by simp; omega
    by_cases h2 : A.length = B.length
    · have q4 : decide ((A.length : Int) = (B.length : Int)) = true := by rw [decI]; simpa using h2
      have e := pkI_0 A B hl h2 qa qb ia ib [] [] [] [] A.length 0 (by omega)
      have e' : Li_Shrink_1 (A.length : Int) 0 (A.map avActS) (B.map avIntS) [] [] [] [] [] [] [] [] [] [] = _ := e
      simp only [List.length_map, q1, q4, cond_false, Bool.not_true, evI A B hl [] h2, Option.bind_some]
      have q2 : decide (A.length ≤ 250) = true := by simpa using h1
      have q3 : decide (A.length = B.length) = true := by simpa using h2
      rw [q2, q3]
      cases allN (evQ A B) A.length with
      | true => simp only [cond_true, Sum.elim_inr, List.length_map, e', Option.bind_some, Bool.and_self, if_true, ni_map]
      | false => simp
    · simp [h1, q1, h2, decI]
  · have h1' : (250 : Int) < (A.length : Int) := by omega
    simp [h1, h1']
end Go.Proofs.YtmbnloccmnclnaaDoor
