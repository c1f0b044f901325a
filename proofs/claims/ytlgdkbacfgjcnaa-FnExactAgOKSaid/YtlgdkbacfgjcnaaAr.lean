/- Attributes: the loops of AgOK over attributes, in the reference and in the program. -/
import Derived.Test.YtlgdkbacfgjcnaaAq
namespace Go.Proofs.Ytlgdkbacfgjcnaa
open Go.VK AVal
/-! Sets of keys -/
def seenK (l : List AVal) : List AVal := l.foldl (fun m k => mpIns k (.int .i64 1) m) []
theorem seenK_getF (c : Nat) : ∀ (l m : List AVal), MpS m → mpGet c (l.foldl (fun m k => mpIns k (.int .i64 1) m) m) = if l.any (fun x => decide (c = kcode x)) then some (.int .i64 1) else mpGet c m
  | [], m, _ => by simp
  | k :: l, m, h => by
    simp only [List.foldl_cons, seenK_getF c l _ (mpS_ins h), mpGet_ins c h, List.any_cons]
    by_cases g : c = kcode k
    · simp [g]
    · simp [g]
theorem seenK_get (l : List AVal) (k : AVal) : (mpGet (kcode k) (seenK l)).getD (.int .i64 0) = iv (bif l.any (fun x => decide (kcode k = kcode x)) then 1 else 0) := by
  unfold seenK
  rw [seenK_getF _ l [] mpS_nil]
  cases l.any (fun x => decide (kcode k = kcode x)) <;> rfl
theorem seenK_snoc (l : List AVal) (k : AVal) : mpIns k (.int .i64 1) (seenK l) = seenK (l ++ [k]) := by simp [seenK]
def kA (x : AttrD) : AVal := .agg [.int .i64 x.1, .str x.2.1]
def kE (x : EqD) : AVal := .agg [.int .i64 x.1, .int .i64 x.2.1, .int .i64 x.2.2.1]
theorem kcode_A {x y : AttrD} : kcode (kA x) = kcode (kA y) ↔ x.1 = y.1 ∧ x.2.1 = y.2.1 := by
  constructor
  · intro h
    simp only [kA, kcode, kcodeL] at h
    obtain ⟨h1, h2⟩ := pairN_inj h
    obtain ⟨h3, _⟩ := pairN_inj h2
    exact ⟨kcode_int.1 (show kcode (.int .i64 x.1) = kcode (.int .i64 y.1) from h1), kcode_str.1 (show kcode (.str x.2.1) = kcode (.str y.2.1) from h3)⟩
  · rintro ⟨h1, h2⟩; simp only [kA, h1, h2]
theorem kcode_E {x y : EqD} : kcode (kE x) = kcode (kE y) ↔ x.1 = y.1 ∧ x.2.1 = y.2.1 ∧ x.2.2.1 = y.2.2.1 := by
  constructor
  · intro h
    simp only [kE, kcode, kcodeL] at h
    obtain ⟨h1, h2⟩ := pairN_inj h
    obtain ⟨h3, h4⟩ := pairN_inj h2
    obtain ⟨h5, _⟩ := pairN_inj h4
    exact ⟨kcode_int.1 (show kcode (.int .i64 x.1) = kcode (.int .i64 y.1) from h1), kcode_int.1 (show kcode (.int .i64 x.2.1) = kcode (.int .i64 y.2.1) from h3), kcode_int.1 (show kcode (.int .i64 x.2.2.1) = kcode (.int .i64 y.2.2.1) from h5)⟩
  · rintro ⟨h1, h2, h3⟩; simp only [kE, h1, h2, h3]
theorem k1_int {n : Int} (h1 : -9223372036854775808 ≤ n) (h2 : n ≤ 9223372036854775807) : keyQ1 (.int .i64) (.int .i64 n) = true := by
  have e1 : IntKind.i64.min = -9223372036854775808 := by decide
  have e2 : IntKind.i64.max = 9223372036854775807 := by decide
  simp [keyQ1, e1, e2, h1, h2]
theorem kA_ok {x : AttrD} (h1 : 0 ≤ x.1) (h2 : x.1 ≤ 1000000) (h3 : x.2.1.size ≤ 1000000) : keyQ (.slice 9) (kA x) = true := by
  show keyQs [.int .i64, .str] [.int .i64 x.1, .str x.2.1] = true
  have e : keyQ1 .str (.str x.2.1) = true := by
    show Nat.ble x.2.1.size 9223372036854775807 = true
    exact Nat.ble_eq_true_of_le (by omega)
  simp only [keyQs, k1_int (show -9223372036854775808 ≤ x.1 by omega) (by omega), e, Bool.and_self]
theorem kE_ok {x : EqD} (h1 : 0 ≤ x.1) (h2 : x.1 ≤ 1000000) (h3 : 0 ≤ x.2.1) (h4 : x.2.1 ≤ 1000000) (h5 : 0 ≤ x.2.2.1) (h6 : x.2.2.1 ≤ 1000000) : keyQ (.slice 21) (kE x) = true := by
  show keyQs [.int .i64, .int .i64, .int .i64] [.int .i64 x.1, .int .i64 x.2.1, .int .i64 x.2.2.1] = true
  simp only [keyQs, k1_int (show -9223372036854775808 ≤ x.1 by omega) (by omega), k1_int (show -9223372036854775808 ≤ x.2.1 by omega) (by omega), k1_int (show -9223372036854775808 ≤ x.2.2.1 by omega) (by omega), Bool.and_self]
/-! Attributes -/
def newA (at_ : List AttrD) (i : Nat) : Bool := !((at_.take i).any fun x => decide ((at_.getD i aD).1 = x.1 ∧ (at_.getD i aD).2.1 = x.2.1))
def atrQ (nn : Nat) (at_ : List AttrD) (i : Nat) : Bool := inQ 0 ((nn : Int) - 1) (at_.getD i aD).1 && (nmOK (at_.getD i aD).2.1 && newA at_ i)
theorem newA_all {at_ : List AttrD} {i : Nat} (hi : i < at_.length) : newA at_ i = allN (fun k => !(decide ((at_.getD k aD).1 = (at_.getD i aD).1) && decide ((at_.getD k aD).2.1 = (at_.getD i aD).2.1))) i := by
  rw [Bool.eq_iff_iff, allN_iff]
  simp only [newA, Bool.not_eq_true', List.any_eq_false, decide_eq_true_eq, Bool.and_eq_false_iff, decide_eq_false_iff_not]
  constructor
  · intro h k hk
    have hk2 : k < at_.length := by omega
    have := h (at_.getD k aD) (by
      rw [List.mem_iff_getElem]
      exact ⟨k, by simp; omega, by simp [List.getD, hk2]⟩)
    by_cases q : (at_.getD k aD).1 = (at_.getD i aD).1
    · exact .inr fun q2 => this ⟨q.symm, q2.symm⟩
    · exact .inl q
  · intro h x hx
    obtain ⟨k, hk, rfl⟩ := List.getElem_of_mem hx
    have hk1 : k < i := by simp at hk; omega
    have hk2 : k < at_.length := by omega
    have e : (at_.take i)[k] = at_.getD k aD := by simp [List.getD, hk2]
    rw [e]
    rintro ⟨q1, q2⟩
    rcases h k hk1 with h | h
    · exact h q1.symm
    · exact h q2.symm
theorem ag_s1 (T N : List AVal) (own : Int) (P : List AVal) (at_ : List AttrD) (E : List AVal) (hl : at_.length ≤ 20) {i : Nat} (hi : i < at_.length) :
    Ls_AgOK_1 (i : Int) 0 T N own P (at_.map avAttr) E (at_.getD i aD).1 (at_.getD i aD).2.1 (at_.getD i aD).2.2 = some (bif newA at_ i then .inr ((i : Int), T, N, own, P, at_.map avAttr, E) else .inl false) := by
  have e := loop_all (fun k => Ls_AgOK_1 (i : Int) (k : Int) T N own P (at_.map avAttr) E (at_.getD i aD).1 (at_.getD i aD).2.1 (at_.getD i aD).2.2) i (fun k => !(decide ((at_.getD k aD).1 = (at_.getD i aD).1) && decide ((at_.getD k aD).2.1 = (at_.getD i aD).2.1))) ((i : Int), T, N, own, P, at_.map avAttr, E) (by
      refine ls_AgOK_1 _ _ _ _ _ _ _ _ _ _ _ ?_
      simp only [lt_self, cond_false]) (fun k hk y hy => by
      refine ls_AgOK_1 _ _ _ _ _ _ _ _ _ _ _ ?_
      rw [← hy]
      have hk2 : k < at_.length := by omega
      simp only [List.length_map, lt_true hk, lt_true hk2, d0_true, Bool.and_self, cond_true, Int.toNat_natCast, getD_map' avAttr aD hk2, p0_Attr, p1_Attr, c0_Attr, c1_Attr, wrap_i (show k < 9000000000000000000 by omega)]
      cases decide ((at_.getD k aD).1 = (at_.getD i aD).1) <;> cases decide ((at_.getD k aD).2.1 = (at_.getD i aD).2.1) <;> rfl)
  simp only [Int.natCast_zero] at e
  rw [e, newA_all hi]
theorem ag_s0 (T : List AVal) (ns : List ByteArray) (own : Int) (P : List AVal) (at_ : List AttrD) (E : List AVal) (hl : at_.length ≤ 20) (hn : ns.length ≤ 100) :
    Ls_AgOK_0 0 T (ns.map sv) own P (at_.map avAttr) E = some (bif allN (atrQ ns.length at_) at_.length then .inr (T, ns.map sv, own, P, at_.map avAttr, E) else .inl false) := by
  have e := loop_all (fun i => Ls_AgOK_0 (i : Int) T (ns.map sv) own P (at_.map avAttr) E) at_.length (atrQ ns.length at_) (T, ns.map sv, own, P, at_.map avAttr, E) (by
      refine ls_AgOK_0 _ _ _ _ _ _ _ ?_
      simp only [List.length_map, lt_self, cond_false]) (fun i hi y hy => by
      refine ls_AgOK_0 _ _ _ _ _ _ _ ?_
      rw [← hy]
      have ew : IntKind.wrap .i64 ((ns.length : Int) - 1) = (ns.length : Int) - 1 := wrap64 (by omega) (by omega)
      simp only [List.length_map, lt_true hi, d0_true, Bool.and_self, cond_true, Int.toNat_natCast, getD_map' avAttr aD hi, sh_Attr, c0_Attr, c1_Attr, c2_Attr, ew, s61', s108, Option.bind_some, ag_s1 T (ns.map sv) own P at_ E hl hi, atrQ]
      cases inQ 0 ((ns.length : Int) - 1) (at_.getD i aD).1 with
      | false => rfl
      | true =>
        cases nmOK (at_.getD i aD).2.1 with
        | false => rfl
        | true =>
          cases newA at_ i with
          | false => rfl
          | true => simp only [Bool.not_true, cond_false, cond_true, Bool.and_self, Option.bind_some, Sum.elim_inr, wrap_i (show i < 9000000000000000000 by omega)])
  simpa using e
theorem nm_size {s : ByteArray} (h : nmOK s = true) : s.size ≤ 24 := by
  simp only [nmOK, Bool.and_eq_true, decide_eq_true_eq] at h
  exact h.2.1
theorem ag_i0 (T : List AVal) (ns : List ByteArray) (own : Int) (P : List AVal) (at_ : List AttrD) (E : List AVal) (hl : at_.length ≤ 20) (hn : ns.length ≤ 100) :
    Li_AgOK_0 (at_.map avAttr) (at_.length : Int) 0 T (ns.map sv) own P (at_.map avAttr) E [] = some (bif allN (atrQ ns.length at_) at_.length then .inr (T, ns.map sv, own, P, at_.map avAttr, E) else .inl false) := by
  have e := loop_all (fun i => Li_AgOK_0 (at_.map avAttr) (at_.length : Int) (i : Int) T (ns.map sv) own P (at_.map avAttr) E (seenK ((at_.take i).map kA))) at_.length (atrQ ns.length at_) (T, ns.map sv, own, P, at_.map avAttr, E) (by
      refine li_AgOK_0 _ _ _ _ _ _ _ _ _ _ ?_
      simp only [lt_self, cond_false]) (fun i hi y hy => by
      refine li_AgOK_0 _ _ _ _ _ _ _ _ _ _ ?_
      rw [← hy]
      simp only [List.length_map, lt_true hi, d0_true, Bool.and_self, cond_true, Int.toNat_natCast, getD_map' avAttr aD hi, sh_Attr, c0_Attr, c1_Attr, c2_Attr, s87, Option.bind_some, atrQ, inQ]
      by_cases g1 : (at_.getD i aD).1 < 0
      · have : ¬ 0 ≤ (at_.getD i aD).1 := by omega
        simp only [g1, this, decide_true, decide_false, cond_true, cond_false, Bool.false_and]
      · have g1' : 0 ≤ (at_.getD i aD).1 := by omega
        by_cases g2 : (ns.length : Int) ≤ (at_.getD i aD).1
        · have : ¬ (at_.getD i aD).1 ≤ (ns.length : Int) - 1 := by omega
          simp only [g1, g2, this, decide_true, decide_false, cond_true, cond_false, Bool.and_false, Bool.false_and]
        · have g2' : (at_.getD i aD).1 ≤ (ns.length : Int) - 1 := by omega
          cases g3 : nmOK (at_.getD i aD).2.1 with
          | false => simp only [g1, g2, decide_false, cond_true, cond_false, Bool.not_false, Bool.and_false, Bool.false_and]
          | true =>
            have hk := kA_ok (x := at_.getD i aD) g1' (by omega) (by have := nm_size g3; omega)
            have ek : (AVal.agg [.int .i64 (at_.getD i aD).1, .str (at_.getD i aD).2.1]) = kA (at_.getD i aD) := rfl
            have ea : ((at_.take i).map kA).any (fun x => decide (kcode (kA (at_.getD i aD)) = kcode x)) = !newA at_ i := by
              simp only [newA, Bool.not_not, List.any_map]
              congr 1; funext x
              simp only [Function.comp, kcode_A]
            have es : (at_.take i).map kA ++ [kA (at_.getD i aD)] = (at_.take (i + 1)).map kA := by
              rw [← take_snoc aD hi, List.map_append]; rfl
            simp only [g1, g1', g2, g2', decide_true, decide_false, cond_true, cond_false, Bool.not_true, ek, hk, seenK_get, ea, e_int, e_toInt, Bool.and_self, bnd_eq, seenK_snoc, es, wrap_i (show i < 9000000000000000000 by omega), Bool.true_and]
            cases newA at_ i <;> rfl)
  simpa [seenK] using e
end Go.Proofs.Ytlgdkbacfgjcnaa
