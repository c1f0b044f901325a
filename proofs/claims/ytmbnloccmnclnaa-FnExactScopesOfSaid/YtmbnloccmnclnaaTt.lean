/- Terms: what TermOK asks, in the reference and in the program; the law answers true at all plain arguments. -/
import Derived.Test.YtmbnloccmnclnaaLf
import Derived.Test.YtmbnloccmnclnaaBy
import Derived.Test.YtmbnloccmnclnaaXb
import Derived.Test.YtmbnloccmnclnaaMp
namespace Go.Proofs.Ytmbnloccmnclnaa
open Go.VK AVal
open Tr
def cLam : ByteArray := ByteArray.mk #[76, 97, 109]
def cApp : ByteArray := ByteArray.mk #[65, 112, 112]
def cLet : ByteArray := ByteArray.mk #[76, 101, 116]
def cIf : ByteArray := ByteArray.mk #[73, 102]
def cAdd : ByteArray := ByteArray.mk #[65, 100, 100]
def cEq : ByteArray := ByteArray.mk #[69, 113]
def cId : ByteArray := ByteArray.mk #[73, 100]
def arL : List (ByteArray × Int) := [(cLam, 2), (cApp, 2), (cLet, 3), (cIf, 3), (cAdd, 2), (cEq, 2)]
def arQ (n : ByteArray) : Int := (dlast arL n).getD 0
def bdQ (n : ByteArray) : Bool := decide (n = cLam) || decide (n = cLet)
def numQ (s : ByteArray) : Bool := inQ 1 9 s.size && (!(decide (1 < s.size) && decide (byteAt s 0 = 48)) && byQ 48 57 s)
def lfQ (n t : ByteArray) : Bool :=
  bif decide (n = cId) then nmOK t else bif decide (n = ByteArray.mk #[78, 117, 109]) then numQ t else bif decide (n = ByteArray.mk #[89, 101, 115]) || decide (n = ByteArray.mk #[78, 111]) then decide (t = ByteArray.mk #[]) else false
def idQ (k : Tr) : Bool := k.leaf && (decide (k.name = cId) && nmOK k.text)
mutual
def trmQ : Tr → Bool
  | .mk n t l ks => bif l then lfQ n t else (!decide (arQ n = 0) && (decide ((ks.length : Int) = arQ n) && trmF (bdQ n) ks))
def trmF : Bool → List Tr → Bool
  | _, [] => true
  | b, k :: ks => (bif b then idQ k else trmQ k) && trmF false ks
end
theorem num_spec (s : ByteArray) : Fs_l12Num s = some (numQ s) := by
  refine us_l12Num _ ?_
  unfold numQ
  cases g : inQ 1 9 (s.size : Int) with
  | false => simp only [s61', g, Option.bind_some, Bool.not_false, cond_true, Bool.false_and]
  | true =>
    have hs : 1 ≤ s.size ∧ s.size ≤ 9 := by simp only [inQ, Bool.and_eq_true, decide_eq_true_eq] at g; omega
    have h0 : (0 : Int) < (s.size : Int) := by omega
    simp only [s61', g, Option.bind_some, Bool.not_true, cond_false, Bool.true_and, by_spec 48 57 s (by omega), h0, decide_true, cond_true]
    by_cases g1 : 1 < s.size
    · have g1' : (1 : Int) < (s.size : Int) := by omega
      simp only [g1, g1', decide_true, cond_true, Bool.true_and]
      cases decide (byteAt s 0 = 48) <;> rfl
    · have g1' : ¬ (1 : Int) < (s.size : Int) := by omega
      simp only [g1, g1', decide_false, cond_false, Bool.false_and, Bool.not_false, Bool.true_and]
theorem num_impl (s : ByteArray) : Fi_numOK s = some (numQ s) := by
  refine ui_numOK _ ?_
  unfold numQ
  rw [inQ_nn]
  by_cases g1 : (s.size : Int) < 1
  · simp only [g1, decide_true, cond_true, Bool.not_true, Bool.false_and]
  · by_cases g2 : (9 : Int) < (s.size : Int)
    · simp only [g1, g2, decide_true, decide_false, cond_true, cond_false, Bool.not_true, Bool.and_false, Bool.false_and]
    · have e := loop_all (fun i => Li_numOK_0 s (s.size : Int) (i : Int)) s.size (fun i => inQ 48 57 (byteAt s i)) () (by
          refine li_numOK_0 _ _ _ ?_
          simp only [lt_self, cond_false]) (fun i hi' y hy => by
          refine li_numOK_0 _ _ _ ?_
          rw [← hy]
          have q : digB (byteAt s i) = inQ 48 57 (byteAt s i) := rfl
          simp only [lt_true hi', d0_true, Bool.and_self, cond_true, Int.toNat_natCast, s127, Option.bind_some, q, wrap_i (show i < 9000000000000000000 by omega)]
          cases inQ 48 57 (byteAt s i) <;> rfl)
      simp only [Int.natCast_zero] at e
      have h0 : (0 : Int) < (s.size : Int) := by omega
      have e2 : (Li_numOK_0 s (s.size : Int) 0).bind (Sum.elim (fun a3 => some a3) (fun _ => some true)) = some (byQ 48 57 s) := by
        rw [e]; unfold byQ
        cases allN (fun i => inQ 48 57 (byteAt s i)) s.size <;> rfl
      simp only [g1, g2, h0, decide_true, decide_false, cond_false, cond_true, Bool.not_false, Bool.and_self, Bool.true_and, e2]
      by_cases g3 : 1 < s.size
      · have g3' : (1 : Int) < (s.size : Int) := by omega
        simp only [g3, g3', decide_true, cond_true, Bool.true_and]
        cases decide (byteAt s 0 = 48) <;> rfl
      · have g3' : ¬ (1 : Int) < (s.size : Int) := by omega
        simp only [g3, g3', decide_false, cond_false, Bool.false_and, Bool.not_false, Bool.true_and]
theorem bd_impl (n t : ByteArray) (l : Bool) (ks : List AVal) : Fi_binds n t l ks = some (!l && bdQ n) := by
  refine ui_binds _ _ _ _ ?_
  unfold bdQ
  cases l with
  | true => rfl
  | false =>
    show (bif decide (n = cLam) then _ else _) = _
    cases decide (n = cLam) <;> rfl
theorem id_impl (k : Tr) (hr : rgt k = true) : Fi_isId k.name k.text k.leaf (avs k.kids) = some (idQ k) := by
  refine ui_isId _ _ _ _ ?_
  have e : Fi_leafOK k.name k.text k.leaf (avs k.kids) (ByteArray.mk #[73, 100]) = some (k.leaf && decide (k.name = cId)) := by
    refine ui_leafOK _ _ _ _ _ ?_
    obtain ⟨n, t, l, ks⟩ := k
    simp only [Tr.name, Tr.text, Tr.leaf, Tr.kids, avs_len, cId]
    cases l with
    | false => rfl
    | true =>
      simp only [rgt, cond_true, Bool.and_eq_true, decide_eq_true_eq] at hr
      have : ((ks.length : Nat) : Int) = 0 := by omega
      simp only [this, decide_true, cond_true, Bool.true_and]
      by_cases q : n = ByteArray.mk #[73, 100] <;> simp [q]
  simp only [e, s87, Option.bind_some, idQ]
  cases k.leaf <;> cases decide (k.name = cId) <;> rfl
theorem lf_eq (n t : ByteArray) : (bif decide (n = ByteArray.mk #[73, 100]) then some (nmOK t) else bif decide (n = ByteArray.mk #[78, 117, 109]) then some (numQ t) else bif decide (n = ByteArray.mk #[89, 101, 115]) then (bif decide (n = ByteArray.mk #[89, 101, 115]) then some (decide (t = ByteArray.mk #[])) else some false) else bif decide (n = ByteArray.mk #[78, 111]) then some (decide (t = ByteArray.mk #[])) else some false) = some (lfQ n t) := by
  unfold lfQ cId
  cases decide (n = ByteArray.mk #[73, 100]) with
  | true => rfl
  | false => cases decide (n = ByteArray.mk #[78, 117, 109]) with
    | true => rfl
    | false => cases decide (n = ByteArray.mk #[89, 101, 115]) with
      | true => rfl
      | false => cases decide (n = ByteArray.mk #[78, 111]) <;> rfl
theorem arQ_nn (n : ByteArray) : 0 ≤ arQ n := by
  unfold arQ arL dlast
  simp only [List.foldl_cons, List.foldl_nil]
  repeat' split
  all_goals simp
theorem bd_ar {n : ByteArray} (h : bdQ n = true) : arQ n ≠ 0 := by
  unfold bdQ at h
  simp only [Bool.or_eq_true, decide_eq_true_eq] at h
  rcases h with rfl | rfl <;> decide
/-! The program -/
mutual
theorem tf_impl : ∀ t : Tr, sz t ≤ 1048576 → rgt t = true → Fi_termForm t.name t.text t.leaf (avs t.kids) = some (trmQ t)
  | .mk n t l ks, hs, hr => by
    refine ui_termForm n t l (avs ks) ?_
    simp only [trmQ]
    cases l with
    | true =>
      simp only [cond_true, s87, num_impl, Option.bind_some]
      exact lf_eq n t
    | false =>
      simp only [sz] at hs
      simp only [rgt, Bool.and_eq_true] at hr
      have em : mpIns (.str (ByteArray.mk #[69, 113])) (.int .i64 2) (mpIns (.str (ByteArray.mk #[65, 100, 100])) (.int .i64 2) (mpIns (.str (ByteArray.mk #[73, 102])) (.int .i64 3) (mpIns (.str (ByteArray.mk #[76, 101, 116])) (.int .i64 3) (mpIns (.str (ByteArray.mk #[65, 112, 112])) (.int .i64 2) (mpIns (.str (ByteArray.mk #[76, 97, 109])) (.int .i64 2) ([] : List AVal)))))) = dS arL := by simp only [dS, arL, List.foldl_cons, List.foldl_nil, cLam, cApp, cLet, cIf, cAdd, cEq, iv]
      have e := tf_loop n t false (bdQ n) [] ks (by simp; omega) (by omega) hr.2.2 (by simp)
      simp only [List.nil_append, List.length_nil, Int.natCast_zero] at e
      simp only [cond_false, bnd_eq, em, dS_get, oiv_getD, e_int, e_toInt, cond_true, avs_len, show (dlast arL n).getD 0 = arQ n from rfl]
      by_cases g1 : arQ n = 0
      · simp only [g1, decide_true, cond_true, Bool.not_true, Bool.false_and]
      · by_cases g2 : ((ks.length : Nat) : Int) = arQ n
        · rw [← g2] at g1 ⊢
          simp only [g1, decide_true, decide_false, Bool.not_true, Bool.not_false, cond_false, Bool.true_and, e]
          cases trmF (bdQ n) ks <;> rfl
        · simp only [g1, g2, decide_false, Bool.not_false, cond_true, cond_false, Bool.false_and, Bool.and_false]
theorem tf_loop : ∀ (n t : ByteArray) (l b : Bool) (pre ks : List Tr), (pre ++ ks).length ≤ 1048576 → szs ks ≤ 1048576 → rgts ks = true → (b = (decide (pre = []) && (!l && bdQ n))) →
    Li_termForm_0 (avs (pre ++ ks)) ((pre ++ ks).length : Int) (pre.length : Int) n t l (avs (pre ++ ks)) = some (bif trmF b ks then .inr () else .inl false)
  | n, t, l, b, pre, [], hl, hs, hr, hb => by
    refine li_termForm_0 _ _ _ _ _ _ _ ?_
    simp [trmF]
  | n, t, l, b, pre, k :: ks, hl, hs, hr, hb => by
    simp only [szs] at hs
    simp only [rgts, Bool.and_eq_true] at hr
    have hm := mid_lt pre ks k
    have hi : pre.length < 9000000000000000000 := by omega
    have e := tf_loop n t l false (pre ++ [k]) ks (by simpa using hl) (by omega) hr.2 (by simp)
    simp only [List.append_assoc, List.cons_append, List.nil_append, show (pre ++ [k]).length = pre.length + 1 by simp] at e
    refine li_termForm_0 _ _ _ _ _ _ _ ?_
    simp only [avs_len, dlt_true hm, d0_true, Bool.and_self, cond_true, Int.toNat_natCast, avs_get, av_shape, av_0, av_1, av_2, av_3, bd_impl, id_impl k hr.1, tf_impl k (by omega) hr.1, Option.bind_some, wrap_i hi, e, trmF]
    by_cases g : pre = []
    · subst g
      simp only [List.length_nil, Int.natCast_zero, decide_true, Bool.true_and, cond_true] at hb ⊢
      subst hb
      cases (!l && bdQ n) with
      | true => cases idQ k <;> rfl
      | false => cases trmQ k <;> rfl
    · have h0 : ¬ ((pre.length : Nat) : Int) = 0 := by
        have : pre.length ≠ 0 := fun h => g (List.length_eq_zero_iff.1 h)
        omega
      simp only [g, decide_false, Bool.false_and] at hb
      subst hb
      simp only [h0, decide_false, cond_false]
      cases trmQ k <;> rfl
end
/-! The reference -/
mutual
theorem tf_spec : ∀ t : Tr, sz t ≤ 1048576 → Fs_l12Term t.name t.text t.leaf (avs t.kids) = some (trmQ t)
  | .mk n t l ks, hs => by
    refine us_l12Term n t l (avs ks) ?_
    simp only [trmQ]
    cases l with
    | true =>
      simp only [cond_true, s108, num_spec, Option.bind_some]
      exact lf_eq n t
    | false =>
      simp only [sz] at hs
      simp only [cond_false, avs_len]
      have two : ∀ (q : Int) (hq : q = 2 ∨ q = 3), (bif !(decide (((ks.length : Nat) : Int) = q)) then some false else ((Ls_l12Term_0 q 0 n t false (avs ks)).bind (Sum.elim (fun a13 => some a13) (fun _ => some true)))) = some (decide (((ks.length : Nat) : Int) = q) && trmF false ks) := by
        intro q hq
        by_cases g : ((ks.length : Nat) : Int) = q
        · have e := tf_sloop n t false [] ks (by simp; omega) (by omega)
          simp only [List.nil_append, List.length_nil, Int.natCast_zero] at e
          subst g
          simp only [decide_true, Bool.not_true, cond_false, e, Bool.true_and]
          cases trmF false ks <;> rfl
        · simp only [g, decide_false, Bool.not_false, cond_true, Bool.false_and]
      have one : ∀ (q : Int) (hq : q = 2 ∨ q = 3), (bif !(decide (((ks.length : Nat) : Int) = q)) then some false else (bif (decide ((0 : Int) < ((ks.length : Nat) : Int))) then (bif (CT.shape .bool (((avs ks).getD 0 .und).cell 2)) then (bif (!(((avs ks).getD 0 .und).cell 2).toBool) then (some false) else (bif (decide ((0 : Int) < ((ks.length : Nat) : Int))) then (bif (CT.shape .str (((avs ks).getD 0 .und).cell 0)) then (bif (!decide ((((avs ks).getD 0 .und).cell 0).toStr = (ByteArray.mk #[73, 100]))) then (some false) else (bif (decide ((0 : Int) < ((ks.length : Nat) : Int))) then (bif (CT.shape .str (((avs ks).getD 0 .und).cell 1)) then ((Fs_l01Name ((((avs ks).getD 0 .und).cell 1).toStr)).bind fun r3 => bif (!r3) then (some false) else ((Ls_l12Term_0 q 1 n t false (avs ks)).bind (Sum.elim (fun a6 => some a6) (fun _ => some true)))) else none) else none)) else none) else none)) else none) else none)) = some (decide (((ks.length : Nat) : Int) = q) && trmF true ks) := by
        intro q hq
        by_cases g : ((ks.length : Nat) : Int) = q
        · cases ks with
          | nil => simp only [List.length_nil] at g; omega
          | cons k ks =>
            have h0 : (0 : Int) < (((k :: ks).length : Nat) : Int) := by simp only [List.length_cons]; omega
            simp only [szs] at hs
            have e := tf_sloop n t false [k] ks (by simp only [List.length_cons, List.length_append, List.length_nil] at hs ⊢; omega) (by omega)
            simp only [List.cons_append, List.nil_append, List.length_cons, List.length_nil, Nat.zero_add, Int.natCast_one] at e
            have hav : (avs (k :: ks)).getD 0 .und = av k := rfl
            have p0 : CT.shape .str ((av k).cell 0) = true := by cases k; rfl
            have p1 : CT.shape .str ((av k).cell 1) = true := by cases k; rfl
            have p2 : CT.shape .bool ((av k).cell 2) = true := by cases k; rfl
            simp only [List.length_cons] at g h0
            subst g
            simp only [List.length_cons, h0, decide_true, Bool.not_true, cond_false, cond_true, hav, p0, p1, p2, av_0, av_1, av_2, s108, Option.bind_some, e, Bool.true_and, trmF, idQ, cId]
            by_cases q : k.name = ByteArray.mk #[73, 100] <;> cases k.leaf <;> cases nmOK k.text <;> cases trmF false ks <;> simp [q]
        · simp only [g, decide_false, Bool.not_false, cond_true, Bool.false_and]
      rw [one 2 (.inl rfl), one 3 (.inr rfl), two 3 (.inr rfl), two 2 (.inl rfl)]
      by_cases h1 : n = ByteArray.mk #[76, 97, 109]
      · subst h1; rfl
      by_cases h2 : n = ByteArray.mk #[76, 101, 116]
      · subst h2; rfl
      by_cases h3 : n = ByteArray.mk #[73, 102]
      · subst h3; rfl
      by_cases h4 : n = ByteArray.mk #[65, 112, 112]
      · subst h4; rfl
      by_cases h5 : n = ByteArray.mk #[65, 100, 100]
      · subst h5; rfl
      by_cases h6 : n = ByteArray.mk #[69, 113]
      · subst h6; rfl
      have ha : arQ n = 0 := by
        unfold arQ arL dlast cLam cApp cLet cIf cAdd cEq
        simp only [List.foldl_cons, List.foldl_nil, h1, h2, h3, h4, h5, h6, if_false, Option.getD_none]
      simp only [h1, h2, h3, h4, h5, h6, decide_false, cond_false, ha, decide_true, Bool.not_true, Bool.false_and]
theorem tf_sloop : ∀ (n t : ByteArray) (l : Bool) (pre ks : List Tr), (pre ++ ks).length ≤ 1048576 → szs ks ≤ 1048576 →
    Ls_l12Term_0 ((pre ++ ks).length : Int) (pre.length : Int) n t l (avs (pre ++ ks)) = some (bif trmF false ks then .inr () else .inl false)
  | n, t, l, pre, [], hl, hs => by
    refine ls_l12Term_0 _ _ _ _ _ _ ?_
    simp [trmF]
  | n, t, l, pre, k :: ks, hl, hs => by
    simp only [szs] at hs
    have hm := mid_lt pre ks k
    have hi : pre.length < 9000000000000000000 := by omega
    have e := tf_sloop n t l (pre ++ [k]) ks (by simpa using hl) (by omega)
    simp only [List.append_assoc, List.cons_append, List.nil_append, show (pre ++ [k]).length = pre.length + 1 by simp] at e
    refine ls_l12Term_0 _ _ _ _ _ _ ?_
    simp only [avs_len, dlt_true hm, d0_true, Bool.and_self, cond_true, cond_false, Int.toNat_natCast, avs_get, av_shape, av_0, av_1, av_2, av_3, tf_spec k (by omega), Option.bind_some, wrap_i hi, e, trmF]
    cases trmQ k <;> rfl
end
theorem tokB2_rgt {t : Tr} (h : tokB2 t = true) : rgt t = true := by
  simp only [tokB2, Bool.and_eq_true] at h
  exact h.2.2
def tmQ (t : Tr) : Bool := tokB2 t && trmQ t
theorem tm_spec (t : Tr) (h : sz t ≤ 1048576) : Fs_TermOK t.name t.text t.leaf (avs t.kids) = some (tmQ t) := by
  refine us_TermOK _ _ _ _ ?_
  simp only [s30 t h, Option.bind_some, tf_spec t h, tmQ]
  cases tokB2 t <;> rfl
theorem tm_impl (t : Tr) (h : sz t ≤ 1048576) : Fi_TermOK t.name t.text t.leaf (avs t.kids) = some (tmQ t) := by
  refine ui_TermOK _ _ _ _ ?_
  simp only [s32 t h, Option.bind_some, tmQ]
  cases g : tokB2 t with
  | false => rfl
  | true => simp only [cond_true, tf_impl t h (tokB2_rgt g), Option.bind_some, Bool.true_and]
end Go.Proofs.Ytmbnloccmnclnaa
