/- Attributes: the loops of AgOK over equations, in the reference and in the program. -/
import Derived.Test.YtlgdkbacfgjcnaaAr
namespace Go.Proofs.Ytlgdkbacfgjcnaa
open Go.VK AVal
def argsQ (nt : Nat) (at_ : List AttrD) (ps : List ProdD) (p : Int) (rs : List RefD) : Bool := allN (fun j => argQ nt at_ ps p (rs.getD j rD)) rs.length
def eqQ (nt : Nat) (at_ : List AttrD) (ps : List ProdD) (e : EqD) : Bool :=
  hasQ nt at_ ps e.1 e.2.1 e.2.2.1 && (!((at_.getD e.2.2.1.toNat aD).2.2 == decide (e.2.1 = 0)) && (decide (opQ e.2.2.2.1 = (e.2.2.2.2.length : Int)) && argsQ nt at_ ps e.1 e.2.2.2.2))
def newE (es : List EqD) (i : Nat) : Bool := !((es.take i).any fun x => decide ((es.getD i eD).1 = x.1 ∧ (es.getD i eD).2.1 = x.2.1 ∧ (es.getD i eD).2.2.1 = x.2.2.1))
section
variable {nt nn : Nat} {ps : List ProdD} {at_ : List AttrD}
theorem eq_s3 (g : PG nt nn ps) (ha : AG nn at_) (T : List AVal) (hT : T.length = nt) (N : List AVal) (own : Int) (E : List AVal) (i p a b c : Int) (rs : List RefD) (hr : rs.length ≤ 1048576) :
    Ls_AgOK_3 i 0 T N own (ps.map avProd) (at_.map avAttr) E p a b c (rs.map avRef) = some (bif argsQ nt at_ ps p rs then .inr (i, T, N, own, ps.map avProd, at_.map avAttr, E) else .inl false) := by
  have e := loop_all (fun j => Ls_AgOK_3 i (j : Int) T N own (ps.map avProd) (at_.map avAttr) E p a b c (rs.map avRef)) rs.length (fun j => argQ nt at_ ps p (rs.getD j rD)) (i, T, N, own, ps.map avProd, at_.map avAttr, E) (by
      refine ls_AgOK_3 _ _ _ _ _ _ _ _ _ _ _ _ _ ?_
      simp only [List.length_map, lt_self, cond_false]) (fun j hj y hy => by
      refine ls_AgOK_3 _ _ _ _ _ _ _ _ _ _ _ _ _ ?_
      rw [← hy]
      simp only [List.length_map, lt_true hj, d0_true, Bool.and_self, cond_true, Int.toNat_natCast, getD_map' avRef rD hj, sh_Ref, c0_Ref, c1_Ref, c2_Ref, arg_spec g ha T hT, Option.bind_some, wrap_i (show j < 9000000000000000000 by omega)]
      cases argQ nt at_ ps p (rs.getD j rD) <;> rfl)
  simp only [Int.natCast_zero] at e
  rw [e]; rfl
theorem eq_s2 (g : PG nt nn ps) (ha : AG nn at_) (T : List AVal) (hT : T.length = nt) (N : List AVal) (own : Int) (es : List EqD) (hl : es.length ≤ 300) (hx : ∀ i, i < es.length → (es.getD i eD).2.2.2.2.length ≤ 1048576) :
    Ls_AgOK_2 0 T N own (ps.map avProd) (at_.map avAttr) (es.map avEq) = some (bif allN (fun i => eqQ nt at_ ps (es.getD i eD)) es.length then .inr (T, N, own, ps.map avProd, at_.map avAttr, es.map avEq) else .inl false) := by
  have e := loop_all (fun i => Ls_AgOK_2 (i : Int) T N own (ps.map avProd) (at_.map avAttr) (es.map avEq)) es.length (fun i => eqQ nt at_ ps (es.getD i eD)) (T, N, own, ps.map avProd, at_.map avAttr, es.map avEq) (by
      refine ls_AgOK_2 _ _ _ _ _ _ _ ?_
      simp only [List.length_map, lt_self, cond_false]) (fun i hi y hy => by
      refine ls_AgOK_2 _ _ _ _ _ _ _ ?_
      rw [← hy]
      have hxi := hx i hi
      simp only [List.length_map, lt_true hi, d0_true, Bool.and_self, cond_true, Int.toNat_natCast, getD_map' avEq eD hi, sh_Eq, c0_Eq, c1_Eq, c2_Eq, c3_Eq, c4_Eq, has_spec g ha T hT, op_spec, eq_s3 g ha T hT N own (es.map avEq) _ _ _ _ _ _ hxi, Option.bind_some, eqQ]
      generalize es.getD i eD = e
      cases h5 : hasQ nt at_ ps e.1 e.2.1 e.2.2.1 with
      | false => rfl
      | true =>
        simp only [hasQ, Bool.and_eq_true] at h5
        obtain ⟨k, hk0, hk⟩ := inQ_nat h5.1
        simp only [hk0, Bool.not_true, cond_false, lt_true hk, d0_true, Bool.and_self, cond_true, Int.toNat_natCast, getD_map' avAttr aD hk, p2_Attr, c2_Attr, Bool.true_and]
        cases ((at_.getD k aD).2.2 == decide (e.2.1 = 0)) with
        | true => rfl
        | false =>
          cases decide (opQ e.2.2.2.1 = (e.2.2.2.2.length : Int)) with
          | false => rfl
          | true =>
            cases argsQ nt at_ ps e.1 e.2.2.2.2 with
            | false => rfl
            | true => simp only [Bool.not_true, Bool.not_false, cond_false, cond_true, Bool.and_self, Option.bind_some, Sum.elim_inr, wrap_i (show i < 9000000000000000000 by omega)])
  simpa using e
theorem eq_i2 (g : PG nt nn ps) (ha : AG nn at_) (T : List AVal) (hT : T.length = nt) (N : List AVal) (own : Int) (E X : List AVal) (l i a b c : Int) (M R : List AVal) {k : Nat} (hk : k < ps.length) (rs : List RefD) (hr : rs.length ≤ 1048576) :
    Li_AgOK_2 X l i (rs.map avRef) (rs.length : Int) 0 T N own (ps.map avProd) (at_.map avAttr) E M (k : Int) a b c R = some (bif argsQ nt at_ ps k rs then .inr (X, l, i, T, N, own, ps.map avProd, at_.map avAttr, E, M) else .inl false) := by
  have e := loop_all (fun j => Li_AgOK_2 X l i (rs.map avRef) (rs.length : Int) (j : Int) T N own (ps.map avProd) (at_.map avAttr) E M (k : Int) a b c R) rs.length (fun j => argQ nt at_ ps k (rs.getD j rD)) (X, l, i, T, N, own, ps.map avProd, at_.map avAttr, E, M) (by
      refine li_AgOK_2 _ _ _ _ _ _ _ _ _ _ _ _ _ _ _ _ _ _ ?_
      simp only [lt_self, cond_false]) (fun j hj y hy => by
      refine li_AgOK_2 _ _ _ _ _ _ _ _ _ _ _ _ _ _ _ _ _ _ ?_
      rw [← hy]
      simp only [List.length_map, lt_true hj, d0_true, Bool.and_self, cond_true, Int.toNat_natCast, getD_map' avRef rD hj, sh_Ref, c0_Ref, c1_Ref, c2_Ref, ref_impl g ha T hT N own E hk, Option.bind_some, wrap_i (show j < 9000000000000000000 by omega)]
      cases argQ nt at_ ps k (rs.getD j rD) <;> rfl)
  simp only [Int.natCast_zero] at e
  rw [e]; rfl
theorem has_bad (ha : AG nn at_) {p pos a : Int} (h : inQ 0 ((ps.length : Int) - 1) p = false) : hasQ nt at_ ps p pos a = false := by
  unfold hasQ
  cases hp : inQ 0 ((at_.length : Int) - 1) a with
  | false => rfl
  | true =>
    obtain ⟨k, rfl, hk⟩ := inQ_nat hp
    have hr := ha.2 k hk
    have : symQ ps p pos = -1 := by simp only [symQ, h, cond_false]
    rw [this]
    simp only [Int.toNat_natCast, Bool.true_and, decide_eq_false_iff_not]
    omega
theorem pos_in {p pos : Int} (h : 0 ≤ symQ ps p pos) : inQ 0 ((ps.length : Int) - 1) p = true ∧ inQ 0 ((ps.getD p.toNat pD).2.1.length : Int) pos = true := by
  unfold symQ at h
  cases hp : inQ 0 ((ps.length : Int) - 1) p with
  | false => rw [hp] at h; simp at h
  | true =>
    rw [hp] at h
    simp only [cond_true] at h
    cases hq : inQ 0 ((ps.getD p.toNat pD).2.1.length : Int) pos with
    | false => rw [hq] at h; simp at h
    | true => exact ⟨rfl, rfl⟩
theorem eq_i1 (g : PG nt nn ps) (ha : AG nn at_) (T : List AVal) (hT : T.length = nt) (N : List AVal) (own : Int) (es : List EqD) (hl : es.length ≤ 300) (hx : ∀ i, i < es.length → (es.getD i eD).2.2.2.2.length ≤ 1048576) :
    Li_AgOK_1 (es.map avEq) (es.length : Int) 0 T N own (ps.map avProd) (at_.map avAttr) (es.map avEq) [] = some (bif allN (fun i => eqQ nt at_ ps (es.getD i eD) && newE es i) es.length then .inr (T, N, own, ps.map avProd, at_.map avAttr, es.map avEq) else .inl false) := by
  have e := loop_all (fun i => Li_AgOK_1 (es.map avEq) (es.length : Int) (i : Int) T N own (ps.map avProd) (at_.map avAttr) (es.map avEq) (seenK ((es.take i).map kE))) es.length (fun i => eqQ nt at_ ps (es.getD i eD) && newE es i) (T, N, own, ps.map avProd, at_.map avAttr, es.map avEq) (by
      refine li_AgOK_1 _ _ _ _ _ _ _ _ _ _ ?_
      simp only [lt_self, cond_false]) (fun i hi y hy => by
      refine li_AgOK_1 _ _ _ _ _ _ _ _ _ _ ?_
      rw [← hy]
      have hxi := hx i hi
      have ea : ((es.take i).map kE).any (fun x => decide (kcode (kE (es.getD i eD)) = kcode x)) = !newE es i := by
        simp only [newE, Bool.not_not, List.any_map]
        congr 1; funext x
        simp only [Function.comp, kcode_E]
      have ez : (es.take i).map kE ++ [kE (es.getD i eD)] = (es.take (i + 1)).map kE := by
        rw [← take_snoc eD hi, List.map_append]; rfl
      have ek : (AVal.agg [.int .i64 (es.getD i eD).1, .int .i64 (es.getD i eD).2.1, .int .i64 (es.getD i eD).2.2.1]) = kE (es.getD i eD) := rfl
      simp only [List.length_map, lt_true hi, d0_true, Bool.and_self, cond_true, Int.toNat_natCast, getD_map' avEq eD hi, sh_Eq, c0_Eq, c1_Eq, c2_Eq, c3_Eq, c4_Eq, op_impl, Option.bind_some, ek, seenK_get, ea, seenK_snoc, ez, eqQ]
      generalize newE es i = w
      generalize seenK ((es.take (i + 1)).map kE) = M
      generalize es.getD i eD = e at hxi ⊢
      by_cases g1 : e.1 < 0
      · have hb : inQ 0 ((ps.length : Int) - 1) e.1 = false := by simp only [inQ, Bool.and_eq_false_iff, decide_eq_false_iff_not]; omega
        simp only [g1, decide_true, cond_true, has_bad ha hb, Bool.false_and, cond_false]
      by_cases g2 : (ps.length : Int) ≤ e.1
      · have hb : inQ 0 ((ps.length : Int) - 1) e.1 = false := by simp only [inQ, Bool.and_eq_false_iff, decide_eq_false_iff_not]; omega
        simp only [g1, g2, decide_true, decide_false, cond_true, cond_false, has_bad ha hb, Bool.false_and]
      by_cases g3 : e.2.2.1 < 0
      · have hb : inQ 0 ((at_.length : Int) - 1) e.2.2.1 = false := by simp only [inQ, Bool.and_eq_false_iff, decide_eq_false_iff_not]; omega
        simp only [g1, g2, g3, decide_true, decide_false, cond_true, cond_false, hasQ, hb, Bool.false_and]
      by_cases g4 : (at_.length : Int) ≤ e.2.2.1
      · have hb : inQ 0 ((at_.length : Int) - 1) e.2.2.1 = false := by simp only [inQ, Bool.and_eq_false_iff, decide_eq_false_iff_not]; omega
        simp only [g1, g2, g3, g4, decide_true, decide_false, cond_true, cond_false, hasQ, hb, Bool.false_and]
      obtain ⟨p, hp0, hp⟩ : ∃ p : Nat, e.1 = p ∧ p < ps.length := ⟨e.1.toNat, by omega, by omega⟩
      obtain ⟨k, hk0, hk⟩ : ∃ k : Nat, e.2.2.1 = k ∧ k < at_.length := ⟨e.2.2.1.toNat, by omega, by omega⟩
      have hr := ha.2 k hk
      have hb : inQ 0 ((at_.length : Int) - 1) (k : Int) = true := by simp only [inQ, Bool.and_eq_true, decide_eq_true_eq]; omega
      by_cases g5 : opQ e.2.2.2.1 = (e.2.2.2.2.length : Int)
      · have hsy := sym_ge g (p : Int) e.2.1
        have kq : (nt : Int) ≤ symQ ps (p : Int) e.2.1 → keyQ (.slice 21) (kE e) = true := fun hq => by
          obtain ⟨_, h2⟩ := pos_in (ps := ps) (p := (p : Int)) (pos := e.2.1) (by omega)
          simp only [inQ, Bool.and_eq_true, decide_eq_true_eq, Int.toNat_natCast] at h2
          have := g.len p hp
          have := g.hps
          have := ha.1
          exact kE_ok (by omega) (by omega) (by omega) (by omega) (by omega) (by omega)
        rw [hp0] at g1 g2
        rw [hk0] at g3 g4
        simp only [hp0, hk0, g1, g2, g3, g4, g5, decide_true, decide_false, Bool.not_true, cond_false, cond_true, non_impl g T hT N own e.2.1 hp, Option.bind_some, lt_true hk, d0_true, Bool.and_self, Int.toNat_natCast, getD_map' avAttr aD hk, sh_Attr, c0_Attr, c2_Attr, hasQ, hb, Bool.true_and]
        have ei2 := eq_i2 g ha T hT N own (es.map avEq) (es.map avEq) (es.length : Int) (i : Int) e.2.1 (k : Int) e.2.2.2.1 M (e.2.2.2.2.map avRef) hp e.2.2.2.2 hxi
        generalize symQ ps (p : Int) e.2.1 = z at hsy kq ⊢
        by_cases g6 : (nt : Int) ≤ z
        · simp only [g6, kq g6, decide_true, cond_true, Bool.not_true, cond_false, e_int, e_toInt, Bool.and_self, bnd_eq, Bool.true_and]
          by_cases g7 : z = (nt : Int) + (at_.getD k aD).1
          · have g7' : (at_.getD k aD).1 = z - nt := by omega
            simp only [decide_eq_true g7, decide_eq_true g7', Bool.not_true, cond_false, Bool.true_and]
            cases ((at_.getD k aD).2.2 == decide (e.2.1 = 0)) with
            | true => rfl
            | false =>
              cases w with
              | false => simp only [cond_false, cond_true, Bool.not_false, Bool.true_and, Bool.and_false]; rfl
              | true =>
                have h00 : decide ((0 : Int) < 0) = false := by decide
                simp only [Bool.not_true, Bool.not_false, cond_false, cond_true, h00, ei2]
                cases argsQ nt at_ ps (p : Int) e.2.2.2.2 with
                | false => rfl
                | true => simp only [cond_true, Bool.and_self, Option.bind_some, Sum.elim_inr, wrap_i (show i < 9000000000000000000 by omega)]
          · have g7' : ¬ (at_.getD k aD).1 = z - nt := by omega
            simp only [decide_eq_false g7, decide_eq_false g7', Bool.not_false, cond_true, cond_false, Bool.false_and]
        · have g7 : ¬ z = (nt : Int) + (at_.getD k aD).1 := by omega
          simp only [g6, g7, decide_false, cond_false, cond_true, Bool.not_false, Bool.false_and]
      · simp only [g1, g2, g3, g4, g5, decide_false, Bool.not_false, cond_false, cond_true, Bool.false_and, Bool.and_false])
  simpa [seenK] using e
end
end Go.Proofs.Ytlgdkbacfgjcnaa
