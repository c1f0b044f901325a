/- Attributes: what AgOK asks at a place, in the reference and in the program. -/
import Derived.Test.YtlgdkbacfgjcnaaBa
import Derived.Test.YtlgdkbacfgjcnaaBo
namespace Go.Proofs.Ytlgdkbacfgjcnaa
open Go.VK AVal
def aD : AttrD := (0, ByteArray.empty, false)
def eD : EqD := (0, 0, 0, 0, [])
def rD : RefD := (0, 0, 0)
/-- plain rules that are right, at_ far at_ it matters here -/
structure PG (nt nn : Nat) (ps : List ProdD) : Prop where
  hnt : nt ≤ 60
  hnn : nn ≤ 100
  hps : ps.length ≤ 120
  left : ∀ i, i < ps.length → (nt : Int) ≤ (ps.getD i pD).1 ∧ (ps.getD i pD).1 < nt + nn
  len : ∀ i, i < ps.length → (ps.getD i pD).2.1.length ≤ 12
  sym : ∀ i, i < ps.length → ∀ j, j < (ps.getD i pD).2.1.length → 0 ≤ (ps.getD i pD).2.1.getD j 0 ∧ (ps.getD i pD).2.1.getD j 0 < nt + nn
theorem pg_of {ts : List TermD} {ns : List ByteArray} {own : Int} {ps : List ProdD} (h : bnfQ ts ns own ps = true) : PG ts.length ns.length ps := by
  simp only [bnfQ, inQ, Bool.and_eq_true, decide_eq_true_eq] at h
  obtain ⟨h1, ⟨h2, h3⟩, _, h4, _, _, h5⟩ := h
  have h6 := allN_iff.1 h5
  refine ⟨h1, by omega, h4, fun i hi => ?_, fun i hi => ?_, fun i hi j hj => ?_⟩
  · have := h6 i hi
    simp only [prQ, inQ, Bool.and_eq_true, decide_eq_true_eq] at this
    omega
  · have := h6 i hi
    simp only [prQ, inQ, Bool.and_eq_true, decide_eq_true_eq] at this
    exact this.2.1
  · have := h6 i hi
    simp only [prQ, Bool.and_eq_true] at this
    have := allN_iff.1 this.2.2.2.2 j hj
    simp only [syQ, inQ, Bool.and_eq_true, decide_eq_true_eq] at this
    omega
/-- attributes whose Nons are among the rules' -/
def AG (nn : Nat) (at_ : List AttrD) : Prop := at_.length ≤ 20 ∧ ∀ i, i < at_.length → 0 ≤ (at_.getD i aD).1 ∧ (at_.getD i aD).1 < nn
def symQ (ps : List ProdD) (p pos : Int) : Int :=
  bif inQ 0 ((ps.length : Int) - 1) p then (bif inQ 0 ((ps.getD p.toNat pD).2.1.length : Int) pos then (bif decide (pos = 0) then (ps.getD p.toNat pD).1 else (ps.getD p.toNat pD).2.1.getD (pos - 1).toNat 0) else -1) else -1
def hasQ (nt : Nat) (at_ : List AttrD) (ps : List ProdD) (p pos a : Int) : Bool := inQ 0 ((at_.length : Int) - 1) a && decide (symQ ps p pos = (nt : Int) + (at_.getD a.toNat aD).1)
def argQ (nt : Nat) (at_ : List AttrD) (ps : List ProdD) (p : Int) (r : RefD) : Bool :=
  bif decide (r.1 = -1) then decide (r.2.1 = 0) && inQ (-1000000000) 1000000000 r.2.2 else
    !decide (symQ ps p r.1 < 0) && (decide (r.2.2 = 0) && (bif decide (symQ ps p r.1 < nt) then decide (r.2.1 = 0) else hasQ nt at_ ps p r.1 r.2.1 && ((at_.getD r.2.1.toNat aD).2.2 == decide (r.1 = 0))))
def opQ (x : Int) : Int := if x = 1 then 1 else if x = 2 then 2 else if x = 3 then 2 else if x = 4 then 2 else if x = 5 then 2 else if x = 6 then 3 else -1
theorem inQ_nat {n : Nat} {x : Int} (h : inQ 0 ((n : Int) - 1) x = true) : ∃ k : Nat, x = k ∧ k < n := by
  simp only [inQ, Bool.and_eq_true, decide_eq_true_eq] at h
  exact ⟨x.toNat, by omega, by omega⟩
theorem inQ_nat' {n : Nat} {x : Int} (h : inQ 0 (n : Int) x = true) : ∃ k : Nat, x = k ∧ k ≤ n := by
  simp only [inQ, Bool.and_eq_true, decide_eq_true_eq] at h
  exact ⟨x.toNat, by omega, by omega⟩
theorem op_spec (x : Int) : Fs_l10Args x = some (opQ x) := by
  refine us_l10Args _ ?_
  unfold opQ
  by_cases h1 : x = 1
  · simp [h1]
  by_cases h2 : x = 2
  · simp [h2]
  by_cases h3 : x = 3
  · simp [h3]
  by_cases h4 : x = 4
  · simp [h4]
  by_cases h5 : x = 5
  · simp [h5]
  by_cases h6 : x = 6
  · simp [h6]
  simp [h1, h2, h3, h4, h5, h6]
theorem op_impl (x : Int) : Fi_argsOf x = some (opQ x) := by
  refine ui_argsOf _ ?_
  unfold opQ
  by_cases h1 : x = 1
  · simp [h1]
  by_cases h2 : x = 2
  · simp [h2]
  by_cases h3 : x = 3
  · simp [h3]
  by_cases h4 : x = 4
  · simp [h4]
  by_cases h5 : x = 5
  · simp [h5]
  by_cases h6 : x = 6
  · simp [h6]
  simp [h1, h2, h3, h4, h5, h6]
section
variable {nt nn : Nat} {ps : List ProdD} (g : PG nt nn ps)
include g
theorem sym_spec (T N : List AVal) (own p pos : Int) : Fs_l10Sym T N own (ps.map avProd) p pos = some (symQ ps p pos) := by
  refine us_l10Sym _ _ _ _ _ _ ?_
  have h120 := g.hps
  have ew : IntKind.wrap .i64 ((ps.length : Int) - 1) = (ps.length : Int) - 1 := wrap64 (by omega) (by omega)
  unfold symQ
  simp only [List.length_map, ew, s61', Option.bind_some]
  cases hp : inQ 0 ((ps.length : Int) - 1) p with
  | false => rfl
  | true =>
    obtain ⟨k, rfl, hk⟩ := inQ_nat hp
    have hl := g.len k hk
    simp only [Bool.not_true, cond_false, cond_true, lt_true hk, d0_true, Bool.and_self, Int.toNat_natCast, getD_map' avProd pD hk, p0_Prod, p1_Prod, c0_Prod, c1_Prod, List.length_map, s61', Option.bind_some]
    cases hq : inQ 0 ((ps.getD k pD).2.1.length : Int) pos with
    | false => rfl
    | true =>
      obtain ⟨j, rfl, hj⟩ := inQ_nat' hq
      simp only [Bool.not_true, cond_false]
      cases j with
      | zero => simp
      | succ j =>
        have hj' : j < (ps.getD k pD).2.1.length := by omega
        have e1 : IntKind.wrap .i64 (((j + 1 : Nat) : Int) - 1) = (j : Int) := by rw [wrap64 (by omega) (by omega)]; omega
        have e2 : (((j + 1 : Nat) : Int) - 1).toNat = j := by omega
        have n0 : ¬ ((j + 1 : Nat) : Int) = 0 := by omega
        simp only [n0, decide_false, cond_false, cond_true, e1, e2, lt_true hj', d0_true, Bool.and_self, Int.toNat_natCast, getD_map' iv 0 hj', e_int, e_toInt]
theorem sym_ge (p pos : Int) : -1 ≤ symQ ps p pos ∧ symQ ps p pos < nt + nn := by
  unfold symQ
  cases hp : inQ 0 ((ps.length : Int) - 1) p with
  | false => simp only [cond_false]; omega
  | true =>
    obtain ⟨k, rfl, hk⟩ := inQ_nat hp
    have hl := g.left k hk
    simp only [cond_true, Int.toNat_natCast]
    cases hq : inQ 0 ((ps.getD k pD).2.1.length : Int) pos with
    | false => simp only [cond_false]; omega
    | true =>
      obtain ⟨j, rfl, hj⟩ := inQ_nat' hq
      simp only [cond_true]
      cases j with
      | zero => simp only [Int.natCast_zero, decide_true, cond_true]; omega
      | succ j =>
        have hs := g.sym k hk j (by omega)
        have e2 : (((j + 1 : Nat) : Int) - 1).toNat = j := by omega
        have n0 : ¬ ((j + 1 : Nat) : Int) = 0 := by omega
        simp only [n0, decide_false, cond_false, e2]; omega
theorem has_spec {at_ : List AttrD} (ha : AG nn at_) (T : List AVal) (hT : T.length = nt) (N : List AVal) (own p pos a : Int) (E : List AVal) : Fs_l10Has T N own (ps.map avProd) (at_.map avAttr) E p pos a = some (hasQ nt at_ ps p pos a) := by
  refine us_l10Has _ _ _ _ _ _ _ _ _ ?_
  have h1 := ha.1
  have h60 := g.hnt
  have h100 := g.hnn
  have ew : IntKind.wrap .i64 ((at_.length : Int) - 1) = (at_.length : Int) - 1 := wrap64 (by omega) (by omega)
  unfold hasQ
  simp only [List.length_map, ew, s61', Option.bind_some]
  cases hp : inQ 0 ((at_.length : Int) - 1) a with
  | false => rfl
  | true =>
    obtain ⟨k, rfl, hk⟩ := inQ_nat hp
    have hr := ha.2 k hk
    have e1 : IntKind.wrap .i64 ((nt : Int) + (at_.getD k aD).1) = (nt : Int) + (at_.getD k aD).1 := wrap64 (by omega) (by omega)
    simp only [cond_true, sym_spec g, Option.bind_some, lt_true hk, d0_true, Bool.and_self, Int.toNat_natCast, getD_map' avAttr aD hk, p0_Attr, c0_Attr, hT, e1, Bool.true_and]
theorem arg_spec {at_ : List AttrD} (ha : AG nn at_) (T : List AVal) (hT : T.length = nt) (N : List AVal) (own p : Int) (E : List AVal) (r : RefD) : Fs_l10ArgOK T N own (ps.map avProd) (at_.map avAttr) E p r.1 r.2.1 r.2.2 = some (argQ nt at_ ps p r) := by
  refine us_l10ArgOK _ _ _ _ _ _ _ _ _ _ ?_
  unfold argQ
  by_cases h1 : r.1 = -1
  · by_cases h2 : r.2.1 = 0
    · simp only [h1, h2, decide_true, cond_true, s61', Option.bind_some, Bool.true_and]
    · simp only [h1, h2, decide_true, decide_false, cond_true, cond_false, Bool.false_and]
  · simp only [h1, decide_false, cond_false, sym_spec g, Option.bind_some, hT, has_spec g ha T hT]
    by_cases h2 : symQ ps p r.1 < 0
    · simp only [h2, decide_true, cond_true, Bool.not_true, Bool.false_and]
    by_cases h3 : r.2.2 = 0
    · by_cases h4 : symQ ps p r.1 < nt
      · simp only [h2, h3, h4, decide_true, decide_false, cond_true, cond_false, Bool.not_true, Bool.not_false, Bool.true_and]
      · simp only [h2, h3, h4, decide_true, decide_false, cond_false, Bool.not_true, Bool.not_false, Bool.true_and]
        cases h5 : hasQ nt at_ ps p r.1 r.2.1 with
        | false => rfl
        | true =>
          simp only [hasQ, Bool.and_eq_true] at h5
          obtain ⟨k, hk0, hk⟩ := inQ_nat h5.1
          simp only [hk0, List.length_map, cond_true, lt_true hk, d0_true, Bool.and_self, Int.toNat_natCast, getD_map' avAttr aD hk, p2_Attr, c2_Attr, Bool.true_and]
    · simp only [h2, h3, decide_false, cond_true, cond_false, Bool.not_false, Bool.true_and, Bool.false_and]
/-! The program -/
theorem non_impl (T : List AVal) (hT : T.length = nt) (N : List AVal) (own pos : Int) {k : Nat} (hk : k < ps.length) :
    Fi_nonAt T N own (ps.map avProd) (k : Int) pos = some (bif decide ((nt : Int) ≤ symQ ps k pos) then (symQ ps k pos - nt, true, false) else (0, false, decide (0 ≤ symQ ps k pos))) := by
  refine ui_nonAt _ _ _ _ _ _ ?_
  have h60 := g.hnt
  have h100 := g.hnn
  have hl := g.left k hk
  have hr := g.len k hk
  have hin : inQ 0 ((ps.length : Int) - 1) (k : Int) = true := by simp only [inQ, Bool.and_eq_true, decide_eq_true_eq]; omega
  unfold symQ
  simp only [List.length_map, lt_true hk, d0_true, Bool.and_self, cond_true, Int.toNat_natCast, getD_map' avProd pD hk, sh_Prod, c0_Prod, c1_Prod, hT, hin]
  by_cases h0 : pos = 0
  · have hq : inQ 0 ((ps.getD k pD).2.1.length : Int) pos = true := by simp only [inQ, Bool.and_eq_true, decide_eq_true_eq]; omega
    have e1 : IntKind.wrap .i64 ((ps.getD k pD).1 - (nt : Int)) = (ps.getD k pD).1 - nt := wrap64 (by omega) (by omega)
    have h0' : decide (pos = 0) = true := decide_eq_true h0
    simp only [hq, h0', cond_true, e1, decide_eq_true hl.1]
  · have h0' : decide (pos = 0) = false := decide_eq_false h0
    by_cases h1 : pos < 0
    · have hq : inQ 0 ((ps.getD k pD).2.1.length : Int) pos = false := by simp only [inQ, Bool.and_eq_false_iff, decide_eq_false_iff_not]; omega
      have n1 : ¬ (nt : Int) ≤ -1 := by omega
      simp only [hq, h0', h1, decide_true, cond_true, cond_false, n1, decide_false]
      rfl
    · by_cases h2 : ((ps.getD k pD).2.1.length : Int) < pos
      · have hq : inQ 0 ((ps.getD k pD).2.1.length : Int) pos = false := by simp only [inQ, Bool.and_eq_false_iff, decide_eq_false_iff_not]; omega
        have n1 : ¬ (nt : Int) ≤ -1 := by omega
        simp only [hq, h0', h1, h2, decide_true, decide_false, cond_true, cond_false, n1]
        rfl
      · obtain ⟨j, rfl⟩ : ∃ j : Nat, pos = ((j + 1 : Nat) : Int) := ⟨pos.toNat - 1, by omega⟩
        have hj : j < (ps.getD k pD).2.1.length := by omega
        have hs := g.sym k hk j hj
        have hq : inQ 0 ((ps.getD k pD).2.1.length : Int) ((j + 1 : Nat) : Int) = true := by simp only [inQ, Bool.and_eq_true, decide_eq_true_eq]; omega
        have e1 : IntKind.wrap .i64 (((j + 1 : Nat) : Int) - 1) = (j : Int) := by rw [wrap64 (by omega) (by omega)]; omega
        have e2 : (((j + 1 : Nat) : Int) - 1).toNat = j := by omega
        simp only [hq, h0', h1, h2, decide_false, cond_true, cond_false, e1, e2, lt_true hj, d0_true, Bool.and_self, Int.toNat_natCast, getD_map' iv 0 hj, e_int, e_toInt]
        have hs0 : decide (0 ≤ (ps.getD k pD).2.1.getD j 0) = true := decide_eq_true hs.1
        by_cases h4 : (ps.getD k pD).2.1.getD j 0 < nt
        · have n4 : ¬ (nt : Int) ≤ (ps.getD k pD).2.1.getD j 0 := by omega
          simp only [h4, n4, hs0, decide_true, decide_false, cond_true, cond_false]
        · have n4 : (nt : Int) ≤ (ps.getD k pD).2.1.getD j 0 := by omega
          have e3 : IntKind.wrap .i64 ((ps.getD k pD).2.1.getD j 0 - (nt : Int)) = (ps.getD k pD).2.1.getD j 0 - nt := wrap64 (by omega) (by omega)
          simp only [h4, n4, decide_true, decide_false, cond_true, cond_false, e3]
theorem ref_impl {at_ : List AttrD} (ha : AG nn at_) (T : List AVal) (hT : T.length = nt) (N : List AVal) (own : Int) (E : List AVal) {k : Nat} (hk : k < ps.length) (r : RefD) : Fi_refOK T N own (ps.map avProd) (at_.map avAttr) E (k : Int) r.1 r.2.1 r.2.2 = some (argQ nt at_ ps k r) := by
  refine ui_refOK _ _ _ _ _ _ _ _ _ _ ?_
  have hsy := sym_ge g (k : Int) r.1
  unfold argQ
  by_cases h1 : r.1 = -1
  · by_cases h2 : r.2.1 = 0
    · have e : Fi_within r.2.2 1000000000 = some (inQ (-1000000000) 1000000000 r.2.2) := by
        refine ui_within _ _ ?_
        have ew : IntKind.wrap .i64 (0 - 1000000000) = -1000000000 := wrap64 (by omega) (by omega)
        simp only [ew, inQ]
        by_cases q : -1000000000 ≤ r.2.2 <;> simp [q]
      simp only [h1, h2, decide_true, cond_true, e, Option.bind_some, Bool.true_and]
    · simp only [h1, h2, decide_true, decide_false, cond_true, cond_false, Bool.false_and]
  · simp only [h1, decide_false, cond_false, non_impl g T hT N own r.1 hk, Option.bind_some, hasQ, List.length_map]
    generalize symQ ps (k : Int) r.1 = y at hsy ⊢
    by_cases h2 : (nt : Int) ≤ y
    · have n2 : ¬ y < 0 := by omega
      have n3 : ¬ y < (nt : Int) := by omega
      simp only [h2, n2, n3, decide_true, decide_false, cond_true, cond_false, Bool.not_true, Bool.not_false, Bool.true_and]
      by_cases h3 : r.2.2 = 0
      · simp only [h3, decide_true, Bool.not_true, cond_false, Bool.true_and]
        by_cases h4 : r.2.1 < 0
        · have hq : inQ 0 ((at_.length : Int) - 1) r.2.1 = false := by simp only [inQ, Bool.and_eq_false_iff, decide_eq_false_iff_not]; omega
          simp only [h4, hq, decide_true, cond_true, Bool.false_and]
        · by_cases h5 : (at_.length : Int) ≤ r.2.1
          · have hq : inQ 0 ((at_.length : Int) - 1) r.2.1 = false := by simp only [inQ, Bool.and_eq_false_iff, decide_eq_false_iff_not]; omega
            simp only [h4, h5, hq, decide_true, decide_false, cond_true, cond_false, Bool.false_and]
          · have hq : inQ 0 ((at_.length : Int) - 1) r.2.1 = true := by simp only [inQ, Bool.and_eq_true, decide_eq_true_eq]; omega
            obtain ⟨i, hi0, hi⟩ := inQ_nat hq
            rw [hi0] at h4 h5
            have e : decide ((at_.getD i aD).1 = y - nt) = decide (y = (nt : Int) + (at_.getD i aD).1) := by congr 1; apply propext; omega
            have hq' : inQ 0 ((at_.length : Int) - 1) (i : Int) = true := by rw [← hi0]; exact hq
            simp only [hi0, h4, h5, hq', decide_false, cond_false, cond_true, lt_true hi, d0_true, Bool.and_self, Int.toNat_natCast, getD_map' avAttr aD hi, sh_Attr, c0_Attr, c2_Attr, e, Bool.true_and]
            cases decide (y = (nt : Int) + (at_.getD i aD).1) <;> rfl
      · simp only [h3, decide_false, Bool.not_false, cond_true, Bool.false_and]
    · simp only [h2, decide_false, cond_false]
      by_cases h3 : 0 ≤ y
      · have n2 : ¬ y < 0 := by omega
        have n3 : y < (nt : Int) := by omega
        simp only [h3, n2, n3, decide_true, decide_false, cond_true, Bool.not_false, Bool.true_and]
        by_cases h4 : r.2.1 = 0 <;> by_cases h5 : r.2.2 = 0 <;> simp [h4, h5]
      · have n2 : y < 0 := by omega
        simp only [h3, n2, decide_true, decide_false, cond_false, cond_true, Bool.not_false, Bool.not_true, Bool.false_and]
end
end Go.Proofs.Ytlgdkbacfgjcnaa
