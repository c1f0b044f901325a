/- The law Widen answers true at all plain arguments; no condition. -/
import Derived.Test.YtmbnloccmnclnaaDoorSh
namespace Go.Proofs.YtmbnloccmnclnaaDoor
open Go.VK AVal
section
variable {α : Type} [DecidableEq α]
theorem pk_all (xs : List α) : ∀ y ∈ xs, y ∈ (pk xs).1 := by
  induction xs using snocInd with
  | h0 => simp
  | h1 xs x ih =>
    rw [pk_snoc]
    unfold pkStep
    intro y hy
    rcases List.mem_append.1 hy with hy | hy
    · have := ih y hy
      split
      · exact List.mem_append_left _ this
      · exact this
    · simp only [List.mem_singleton] at hy
      subst hy
      split
      · simp
      · rename_i h; exact Classical.byContradiction fun hn => h (ix_no hn)
theorem pk_rows (xs : List α) : (pk xs).2 = xs.map fun x => ix x (pk xs).1 := by
  induction xs using snocInd with
  | h0 => rfl
  | h1 xs x ih =>
    rw [pk_snoc]
    have ha := pk_all xs
    generalize pk xs = p at ih ha ⊢
    obtain ⟨d, r⟩ := p
    simp only at ih ha
    unfold pkStep
    simp only [List.map_append, List.map_cons, List.map_nil]
    have e : ∀ y ∈ xs, ix y (if ix x d = d.length then d ++ [x] else d) = ix y d := fun y hy => by
      split
      · rw [ix_snoc, if_pos (ha y hy)]
      · rfl
    have e2 : ix x (if ix x d = d.length then d ++ [x] else d) = ix x d := by
      split
      · rename_i h
        rw [ix_snoc, if_neg (idx_len.1 h), if_pos rfl, h]
      · rfl
    rw [e2, ih, List.map_congr_left e]
theorem ix_get {x d : α} : ∀ {l : List α}, x ∈ l → l.getD (ix x l) d = x
  | y :: l, h => by
    rw [ix_cons]
    split
    · rename_i e; simp [e]
    · rename_i hn
      rcases List.mem_cons.1 h with rfl | h
      · exact absurd rfl hn
      · simpa using ix_get h
theorem ix_at {d : α} {l : List α} (hn : l.Nodup) {k : Nat} (hk : k < l.length) : ix (l.getD k d) l = k := by
  induction l generalizing k with
  | nil => simp at hk
  | cons y l ih =>
    have hn' := List.nodup_cons.1 hn
    cases k with
    | zero => simp [ix_cons]
    | succ k =>
      have hk' : k < l.length := by simpa using hk
      have hm : l.getD k d ∈ l := getD_mem d hk'
      rw [List.getD_cons_succ, ix_cons, if_neg (fun e => hn'.1 (by rw [e]; exact hm)), ih hn'.2 hk']
/-- rows that are told by their places among A, and are met in that order: A itself -/
theorem pk_back (A : List α) (d : α) (rs : List Int) (_h0 : ∀ r ∈ rs, 0 ≤ r ∧ r < A.length) (h1 : (pk (rs.map fun r => A.getD r.toNat d)).1.length = A.length) (h2 : ((pk (rs.map fun r => A.getD r.toNat d)).2.map fun k : Nat => (k : Int)) = rs) :
    (pk (rs.map fun r => A.getD r.toNat d)).1 = A := by
  generalize hxs : (rs.map fun r => A.getD r.toNat d) = xs at h1 h2
  have hn := pk_nodup xs
  have hr := pk_rows xs
  have hs := pk_sub xs
  generalize pk xs = p at h1 h2 hn hr hs ⊢
  obtain ⟨ds, is⟩ := p
  simp only at h1 h2 hn hr hs ⊢
  refine List.ext_getElem h1 fun k hk hk' => ?_
  have hm : ds.getD k d ∈ xs := hs _ (getD_mem d hk)
  rw [← hxs] at hm
  obtain ⟨r, hrm, hre⟩ := List.mem_map.1 hm
  -- the place of this row is r
  have key : (ix (A.getD r.toNat d) ds : Int) = r := by
    obtain ⟨i, hi⟩ := List.getElem?_of_mem hrm
    have e1 : (is.map fun k : Nat => (k : Int))[i]? = some r := by rw [h2]; exact hi
    rw [hr, ← hxs, List.map_map, List.map_map, List.getElem?_map, hi] at e1
    simpa using e1
  rw [hre, ix_at hn hk] at key
  have e2 : ds.getD k d = A.getD k d := by rw [← hre, ← key]; simp
  simpa [List.getD_eq_getElem?_getD, hk, hk'] using e2
end
def okP (A : List (List ActD)) (B : List (List Int)) (ar gr : List Int) (j : Nat) : Bool :=
  decide (0 ≤ ar.getD j 0) && (decide (ar.getD j 0 < (A.length : Int)) && (decide (0 ≤ gr.getD j 0) && decide (gr.getD j 0 < (B.length : Int))))
def wdA (A : List (List ActD)) (ar : List Int) : List (List ActD) := ar.map fun r => A.getD r.toNat []
def wdB (B : List (List Int)) (gr : List Int) : List (List Int) := gr.map fun r => B.getD r.toNat []
theorem wd_take {α : Type} (A : List (List α)) (ar : List Int) {i : Nat} (hi : i < ar.length) : (ar.take (i + 1)).map (fun r => A.getD r.toNat []) = (ar.take i).map (fun r => A.getD r.toNat []) ++ [A.getD (ar.getD i 0).toNat []] := by
  rw [List.take_add_one, List.getElem?_eq_getElem hi]
  simp only [Option.toList_some, List.map_append, List.map_cons, List.map_nil, List.getD_eq_getElem?_getD (l := ar), List.getElem?_eq_getElem hi, Option.getD_some]
theorem btwF (n a b : Int) : Fs_l01Between n a b = some (decide (a ≤ n) && decide (n ≤ b)) := by
  refine us_l01Between _ _ _ ?_
  cases decide (a ≤ n) <;> rfl
theorem le_pred (a : Int) (n : Nat) : decide (a ≤ (n : Int) - 1) = decide (a < (n : Int)) := by
  rw [Bool.eq_iff_iff]; simp only [decide_eq_true_eq]; omega
section
variable (A : List (List ActD)) (B : List (List Int)) (ar gr : List Int) (la : A.length ≤ 1048576) (lb : B.length ≤ 1048576) (qa : rowsQ A) (qb : rowsQ B) (hl : ar.length ≤ 250) (h2 : ar.length = gr.length) (c : List AVal)
include la lb qa qb hl h2 in
theorem wdS_0 : ∀ m i, i + m = ar.length → Ls_Widen_0 (i : Int) (A.map avActS) (B.map avIntS) (ar.map iv) (gr.map iv) c c ((wdA A (ar.take i)).map aoActS) ((wdB B (gr.take i)).map aoIntS) =
    some (bif (List.range' i m).all (okP A B ar gr) then .inr (A.map avActS, B.map avIntS, ar.map iv, gr.map iv, c, c, (wdA A ar).map aoActS, (wdB B gr).map aoIntS) else .inl (10, [], []))
  | 0, i, h => by
    obtain rfl : i = ar.length := by omega
    refine ls_Widen_0 _ _ _ _ _ _ _ _ _ ?_
    rw [List.take_length, show gr.take ar.length = gr by rw [h2, List.take_length]]
    simp
  | m + 1, i, h => by
    have hi : i < ar.length := by omega
    have hi' : i < gr.length := by omega
    have ih := wdS_0 m (i + 1) (by omega)
    simp only [wdA, wdB] at ih ⊢
    rw [wd_take A ar hi, wd_take B gr hi'] at ih
    have wa : IntKind.wrap .i64 ((A.length : Int) - 1) = (A.length : Int) - 1 := wrap64 (by omega) (by omega)
    have wb : IntKind.wrap .i64 ((B.length : Int) - 1) = (B.length : Int) - 1 := wrap64 (by omega) (by omega)
    have ta : (List.map (fun r => A.getD r.toNat []) (ar.take i)).length ≤ 250 := by simp; omega
    have tb : (List.map (fun r => B.getD r.toNat []) (gr.take i)).length ≤ 250 := by simp; omega
    generalize List.map (fun r => A.getD r.toNat []) (ar.take i) = pa at ih ta ⊢
    generalize List.map (fun r => B.getD r.toNat []) (gr.take i) = pb at ih tb ⊢
    have ca : capB (pa.length + 1) 24 = true := capB_le (by omega)
    have cb : capB (pb.length + 1) 24 = true := capB_le (by omega)
    have ea : ∀ r : List ActD, pa.map aoActS ++ [.own 2 (r.map avAct)] = (pa ++ [r]).map aoActS := fun r => by simp [aoActS]
    have eb : ∀ r : List Int, pb.map aoIntS ++ [.own 1 (r.map iv)] = (pb ++ [r]).map aoIntS := fun r => by simp [aoIntS]
    refine ls_Widen_0 _ _ _ _ _ _ _ _ _ ?_
    simp only [List.range'_succ, List.all_cons]
    simp only [Int.toNat_natCast, List.length_map, lt_true hi, lt_true hi', d0_true, Bool.and_self, getD_map' iv 0 hi, getD_map' iv 0 hi', e_int, e_toInt, wa, wb, btwF, Option.bind_some, le_pred, wrap_i (show i < 9000000000000000000 by omega), cond_true]
    rw [show okP A B ar gr i = (decide (0 ≤ ar.getD i 0) && (decide (ar.getD i 0 < (A.length : Int)) && (decide (0 ≤ gr.getD i 0) && decide (gr.getD i 0 < (B.length : Int))))) from rfl]
    generalize ar.getD i 0 = a at ih ⊢
    generalize gr.getD i 0 = b at ih ⊢
    by_cases a1 : 0 ≤ a
    · by_cases a2 : a < (A.length : Int)
      · have na : a.toNat < A.length := by omega
        have ca1 : capB (0 + (A.getD a.toNat []).length) 16 = true := capB_le (by have := getD_memQ qa na; omega)
        by_cases b1 : 0 ≤ b
        · by_cases b2 : b < (B.length : Int)
          · have nb : b.toNat < B.length := by omega
            have cb1 : capB (0 + (B.getD b.toNat []).length) 8 = true := capB_le (by have := getD_memQ qb nb; omega)
            simp only [a1, a2, b1, b2, decide_true, Bool.and_self, Bool.not_true, cond_false, cond_true, getD_map' avActS [] na, getD_map' avIntS [] nb, e_actS, e_actSe, e_intS, e_intSe, List.length_map, ca, cb, ca1, cb1, ea, eb, Bnd, ih, Bool.true_and]
          · simp only [a1, a2, b1, b2, decide_true, decide_false, Bool.and_self, Bool.and_false, Bool.false_and, Bool.not_true, Bool.not_false, cond_false, cond_true]
        · simp only [a1, a2, b1, decide_true, decide_false, Bool.and_self, Bool.and_false, Bool.false_and, Bool.not_true, Bool.not_false, cond_false, cond_true]
      · simp only [a1, a2, decide_true, decide_false, Bool.and_false, Bool.false_and, Bool.not_false, cond_false, cond_true]
    · simp only [a1, decide_false, Bool.false_and, Bool.not_false, cond_false, cond_true]
include qa qb hl h2 in
theorem wdI_0 : ∀ m i, i + m = ar.length → Li_Widen_0 (ar.length : Int) (i : Int) (A.map avActS) (B.map avIntS) (ar.map iv) (gr.map iv) c c ((wdA A (ar.take i)).map aoActS) ((wdB B (gr.take i)).map aoIntS) =
    some (bif (List.range' i m).all (okP A B ar gr) then .inr (A.map avActS, B.map avIntS, ar.map iv, gr.map iv, c, c, (wdA A ar).map aoActS, (wdB B gr).map aoIntS) else .inl (10, [], []))
  | 0, i, h => by
    obtain rfl : i = ar.length := by omega
    refine li_Widen_0 _ _ _ _ _ _ _ _ _ _ ?_
    rw [List.take_length, show gr.take ar.length = gr by rw [h2, List.take_length]]
    simp
  | m + 1, i, h => by
    have hi : i < ar.length := by omega
    have hi' : i < gr.length := by omega
    have ih := wdI_0 m (i + 1) (by omega)
    simp only [wdA, wdB] at ih ⊢
    rw [wd_take A ar hi, wd_take B gr hi'] at ih
    have ta : (List.map (fun r => A.getD r.toNat []) (ar.take i)).length ≤ 250 := by simp; omega
    have tb : (List.map (fun r => B.getD r.toNat []) (gr.take i)).length ≤ 250 := by simp; omega
    generalize List.map (fun r => A.getD r.toNat []) (ar.take i) = pa at ih ta ⊢
    generalize List.map (fun r => B.getD r.toNat []) (gr.take i) = pb at ih tb ⊢
    have ca : capB (pa.length + 1) 24 = true := capB_le (by omega)
    have cb : capB (pb.length + 1) 24 = true := capB_le (by omega)
    have ea : ∀ r : List ActD, pa.map aoActS ++ [.own 2 (r.map avAct)] = (pa ++ [r]).map aoActS := fun r => by simp [aoActS]
    have eb : ∀ r : List Int, pb.map aoIntS ++ [.own 1 (r.map iv)] = (pb ++ [r]).map aoIntS := fun r => by simp [aoIntS]
    refine li_Widen_0 _ _ _ _ _ _ _ _ _ _ ?_
    simp only [List.range'_succ, List.all_cons]
    simp only [Int.toNat_natCast, List.length_map, lt_true hi, lt_true hi', d0_true, Bool.and_self, getD_map' iv 0 hi, getD_map' iv 0 hi', e_int, e_toInt, wrap_i (show i < 9000000000000000000 by omega), cond_true]
    rw [show okP A B ar gr i = (decide (0 ≤ ar.getD i 0) && (decide (ar.getD i 0 < (A.length : Int)) && (decide (0 ≤ gr.getD i 0) && decide (gr.getD i 0 < (B.length : Int))))) from rfl]
    generalize ar.getD i 0 = a at ih ⊢
    generalize gr.getD i 0 = b at ih ⊢
    by_cases a1 : 0 ≤ a
    · have a1' : ¬ a < 0 := by omega
      by_cases a2 : a < (A.length : Int)
      · have a2' : ¬ (A.length : Int) ≤ a := by omega
        have na : a.toNat < A.length := by omega
        have ca1 : capB (0 + (A.getD a.toNat []).length) 16 = true := capB_le (by have := getD_memQ qa na; omega)
        by_cases b1 : 0 ≤ b
        · have b1' : ¬ b < 0 := by omega
          by_cases b2 : b < (B.length : Int)
          · have b2' : ¬ (B.length : Int) ≤ b := by omega
            have nb : b.toNat < B.length := by omega
            have cb1 : capB (0 + (B.getD b.toNat []).length) 8 = true := capB_le (by have := getD_memQ qb nb; omega)
            simp only [a1, a1', a2, a2', b1, b1', b2, b2', decide_true, decide_false, Bool.and_self, cond_false, cond_true, getD_map' avActS [] na, getD_map' avIntS [] nb, e_actS, e_actSe, e_intS, e_intSe, List.length_map, ca, cb, ca1, cb1, ea, eb, Bnd, ih, Bool.true_and]
          · have b2' : (B.length : Int) ≤ b := by omega
            simp only [a1, a1', a2, a2', b1, b1', b2, b2', decide_true, decide_false, Bool.and_self, Bool.and_false, Bool.false_and, cond_false, cond_true]
        · have b1' : b < 0 := by omega
          simp only [a1, a1', a2, a2', b1, b1', decide_true, decide_false, Bool.and_self, Bool.and_false, Bool.false_and, cond_false, cond_true]
      · have a2' : (A.length : Int) ≤ a := by omega
        simp only [a1, a1', a2, a2', decide_true, decide_false, Bool.and_false, Bool.false_and, cond_false, cond_true]
    · have a1' : a < 0 := by omega
      simp only [a1, a1', decide_true, decide_false, Bool.false_and, cond_false, cond_true]
end
end Go.Proofs.YtmbnloccmnclnaaDoor
