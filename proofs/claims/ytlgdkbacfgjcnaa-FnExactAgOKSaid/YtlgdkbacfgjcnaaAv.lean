/- Attributes: the loops of AgOK over places, in the reference and in the program. -/
import Derived.Test.YtlgdkbacfgjcnaaAc
namespace Go.Proofs.Ytlgdkbacfgjcnaa
open Go.VK AVal
def wantQ (nt : Nat) (at_ : List AttrD) (ps : List ProdD) (p q a : Nat) : Bool := hasQ nt at_ ps p q a && !((at_.getD a aD).2.2 == decide ((q : Int) = 0))
def lenP (ps : List ProdD) (p : Nat) : Nat := (ps.getD p pD).2.1.length + 1
theorem cnt_0 (p q a : Int) (A : List AVal) : ∀ (es pre : List EqD) (z : Int) (n : Nat), (pre ++ es).length ≤ 300 → n ≤ pre.length → ∃ z', Ls_l10Eq_0 p q a z (n : Int) (pre.length : Int) A ((pre ++ es).map avEq) = some (z', ((n + cntE es p q a : Nat) : Int))
  | [], pre, z, n, hl, hn => ⟨z, by
    refine ls_l10Eq_0 _ _ _ _ _ _ _ _ ?_
    simp only [List.append_nil, List.length_map, lt_self, cond_false, cntE, Nat.add_zero]⟩
  | e :: es, pre, z, n, hl, hn => by
    have hm := mid_len pre es e
    have key : ∀ (z : Int) (k : Nat), k ≤ pre.length + 1 → ∃ z', Ls_l10Eq_0 p q a z (k : Int) ((pre.length + 1 : Nat) : Int) A ((pre ++ e :: es).map avEq) = some (z', ((k + cntE es p q a : Nat) : Int)) := by
      intro z k hk
      have := cnt_0 p q a A es (pre ++ [e]) z k (by simpa using hl) (by simpa using hk)
      simpa only [List.append_assoc, List.cons_append, List.nil_append, show (pre ++ [e]).length = pre.length + 1 by simp] using this
    have hg : ((pre ++ e :: es).map avEq).getD pre.length .und = avEq e := map_mid ..
    cases hk : keyIs e p q a with
    | true =>
      obtain ⟨z', hz⟩ := key (pre.length : Int) (n + 1) (by omega)
      refine ⟨z', ls_l10Eq_0 _ _ _ _ _ _ _ _ ?_⟩
      simp only [keyIs, Bool.and_eq_true] at hk
      simp only [List.length_map, dlt_true hm, d0_true, Bool.and_self, cond_true, Int.toNat_natCast, hg, sh_Eq, c0_Eq, c1_Eq, c2_Eq, hk.1, hk.2.1, hk.2.2, wrap_i (show n < 9000000000000000000 by simp at hl; omega), wrap_i (show pre.length < 9000000000000000000 by simp at hl; omega), hz, cntE, keyIs, b2n, Option.some.injEq, Prod.mk.injEq, true_and]
      omega
    | false =>
      obtain ⟨z', hz⟩ := key z n (by omega)
      refine ⟨z', ls_l10Eq_0 _ _ _ _ _ _ _ _ ?_⟩
      have hw := wrap_i (show pre.length < 9000000000000000000 by simp at hl; omega)
      have hc : cntE (e :: es) p q a = cntE es p q a := by simp only [cntE, hk, b2n, cond_false, Nat.zero_add]
      simp only [keyIs] at hk
      simp only [List.length_map, dlt_true hm, d0_true, Bool.and_self, cond_true, Int.toNat_natCast, hg, sh_Eq, c0_Eq, c1_Eq, c2_Eq, hw, hz, hc]
      cases g1 : decide (e.1 = p) with
      | false => rfl
      | true =>
        cases g2 : decide (e.2.1 = q) with
        | false => rfl
        | true =>
          cases g3 : decide (e.2.2.1 = a) with
          | false => rfl
          | true => rw [g1, g2, g3] at hk; cases hk
theorem cnt_spec (p q a : Int) (A : List AVal) (es : List EqD) (hl : es.length ≤ 300) : ∃ z, Fs_l10Eq A (es.map avEq) p q a = some (z, (cntE es p q a : Int)) := by
  obtain ⟨z, h⟩ := cnt_0 p q a A es [] (-1) 0 (by simpa using hl) (Nat.le_refl _)
  simp only [List.nil_append, List.length_nil, Int.natCast_zero, Nat.zero_add] at h
  exact ⟨z, us_l10Eq _ _ _ _ _ (by simp only [h, Option.bind_some])⟩
section
variable {nt nn : Nat} {ps : List ProdD} {at_ : List AttrD}
def okW (nt : Nat) (at_ : List AttrD) (ps : List ProdD) (es : List EqD) (p q a : Nat) : Bool := !(wantQ nt at_ ps p q a) || decide (cntE es p q a = 1)
theorem pl_s6 (g : PG nt nn ps) (ha : AG nn at_) (T : List AVal) (hT : T.length = nt) (N : List AVal) (own : Int) (es : List EqD) (hl : es.length ≤ 300) (p q : Nat) :
    Ls_AgOK_6 (p : Int) (q : Int) 0 T N own (ps.map avProd) (at_.map avAttr) (es.map avEq) = some (bif allN (okW nt at_ ps es p q) at_.length then .inr ((p : Int), (q : Int), T, N, own, ps.map avProd, at_.map avAttr, es.map avEq) else .inl false) := by
  have h20 := ha.1
  have e := loop_all (fun k => Ls_AgOK_6 (p : Int) (q : Int) (k : Int) T N own (ps.map avProd) (at_.map avAttr) (es.map avEq)) at_.length (okW nt at_ ps es p q) ((p : Int), (q : Int), T, N, own, ps.map avProd, at_.map avAttr, es.map avEq) (by
      refine ls_AgOK_6 _ _ _ _ _ _ _ _ _ ?_
      simp only [List.length_map, lt_self, cond_false]) (fun k hk y hy => by
      refine ls_AgOK_6 _ _ _ _ _ _ _ _ _ ?_
      rw [← hy]
      obtain ⟨z, hz⟩ := cnt_spec (p : Int) (q : Int) (k : Int) (at_.map avAttr) es hl
      simp only [List.length_map, lt_true hk, d0_true, Bool.and_self, cond_true, Int.toNat_natCast, getD_map' avAttr aD hk, p2_Attr, c2_Attr, hz, has_spec g ha T hT, Option.bind_some, okW, wantQ, wrap_i (show k < 9000000000000000000 by omega)]
      cases hasQ nt at_ ps (p : Int) (q : Int) (k : Int) with
      | false => rfl
      | true =>
        cases ((at_.getD k aD).2.2 == decide ((q : Int) = 0)) with
        | true => rfl
        | false =>
          have e1 : decide (((cntE es (p : Int) (q : Int) (k : Int) : Nat) : Int) = 1) = decide (cntE es (p : Int) (q : Int) (k : Int) = 1) := by congr 1; apply propext; omega
          simp only [e1, Bool.not_false, Bool.and_self, cond_true, Bool.not_true, Bool.false_or]
          cases decide (cntE es (p : Int) (q : Int) (k : Int) = 1) <;> rfl)
  simpa using e
theorem pl_s5 (g : PG nt nn ps) (ha : AG nn at_) (T : List AVal) (hT : T.length = nt) (N : List AVal) (own : Int) (es : List EqD) (hl : es.length ≤ 300) {p : Nat} (hp : p < ps.length) :
    Ls_AgOK_5 (p : Int) 0 T N own (ps.map avProd) (at_.map avAttr) (es.map avEq) = some (bif allN (fun q => allN (okW nt at_ ps es p q) at_.length) (lenP ps p) then .inr ((p : Int), T, N, own, ps.map avProd, at_.map avAttr, es.map avEq) else .inl false) := by
  have hl12 := g.len p hp
  have e := loop_all (fun q => Ls_AgOK_5 (p : Int) (q : Int) T N own (ps.map avProd) (at_.map avAttr) (es.map avEq)) (lenP ps p) (fun q => allN (okW nt at_ ps es p q) at_.length) ((p : Int), T, N, own, ps.map avProd, at_.map avAttr, es.map avEq) (by
      refine ls_AgOK_5 _ _ _ _ _ _ _ _ ?_
      have : decide (((lenP ps p : Nat) : Int) ≤ ((ps.getD p pD).2.1.length : Int)) = false := decide_eq_false (by unfold lenP; omega)
      simp only [List.length_map, lt_true hp, d0_true, Bool.and_self, cond_true, Int.toNat_natCast, getD_map' avProd pD hp, p1_Prod, c1_Prod, this, cond_false]) (fun q hq y hy => by
      refine ls_AgOK_5 _ _ _ _ _ _ _ _ ?_
      rw [← hy]
      have : decide (((q : Nat) : Int) ≤ ((ps.getD p pD).2.1.length : Int)) = true := by simp only [lenP] at hq; simp only [decide_eq_true_eq]; omega
      simp only [List.length_map, lt_true hp, d0_true, Bool.and_self, cond_true, Int.toNat_natCast, getD_map' avProd pD hp, p1_Prod, c1_Prod, this, pl_s6 g ha T hT N own es hl p q, Option.bind_some]
      cases allN (okW nt at_ ps es p q) at_.length with
      | false => rfl
      | true => simp only [cond_true, Sum.elim_inr, wrap_i (show q < 9000000000000000000 by simp only [lenP] at hq; omega)])
  simpa using e
theorem pl_s4 (g : PG nt nn ps) (ha : AG nn at_) (T : List AVal) (hT : T.length = nt) (N : List AVal) (own : Int) (es : List EqD) (hl : es.length ≤ 300) :
    Ls_AgOK_4 0 T N own (ps.map avProd) (at_.map avAttr) (es.map avEq) = some (bif allN (fun p => allN (fun q => allN (okW nt at_ ps es p q) at_.length) (lenP ps p)) ps.length then .inr () else .inl false) := by
  have h120 := g.hps
  have e := loop_all (fun p => Ls_AgOK_4 (p : Int) T N own (ps.map avProd) (at_.map avAttr) (es.map avEq)) ps.length (fun p => allN (fun q => allN (okW nt at_ ps es p q) at_.length) (lenP ps p)) () (by
      refine ls_AgOK_4 _ _ _ _ _ _ _ ?_
      simp only [List.length_map, lt_self, cond_false]) (fun p hp y hy => by
      refine ls_AgOK_4 _ _ _ _ _ _ _ ?_
      rw [← hy]
      simp only [List.length_map, lt_true hp, cond_true, pl_s5 g ha T hT N own es hl hp, Option.bind_some]
      cases allN (fun q => allN (okW nt at_ ps es p q) at_.length) (lenP ps p) with
      | false => rfl
      | true => simp only [cond_true, Sum.elim_inr, wrap_i (show p < 9000000000000000000 by omega)])
  simpa using e
/-! The program -/
theorem sumF (c : Nat → Nat) : ∀ (n k s : Nat), (List.range' k n).foldl (fun w j => w + c j) s = s + sumN (fun j => c (k + j)) n := by
  intro n
  induction n with
  | zero => intro k s; simp [sumN]
  | succ n ih =>
    intro k s
    rw [List.range'_concat, List.foldl_append, ih]
    simp only [List.foldl_cons, List.foldl_nil, sumN, Nat.one_mul]
    omega
theorem sumF0 (c : Nat → Nat) (n s : Nat) : (List.range' 0 n).foldl (fun w j => w + c j) s = s + sumN c n := by
  rw [sumF]; simp only [Nat.zero_add]
theorem sumN_b {c : Nat → Nat} {B : Nat} : ∀ {n : Nat}, (∀ j, j < n → c j ≤ B) → sumN c n ≤ n * B
  | 0, _ => Nat.zero_le _
  | n + 1, h => by
    have h1 := sumN_b (n := n) fun j hj => h j (Nat.lt_succ_of_lt hj)
    have h2 := h n (Nat.lt_succ_self n)
    simp only [sumN, Nat.succ_mul]; omega
theorem pl_i5 (ha : AG nn at_) (T N : List AVal) (own : Int) (E : List AVal) (p q : Nat) (a b : Int) (w : Nat) (hw : w ≤ 1000000) :
    Li_AgOK_5 (w : Int) (p : Int) (q : Int) (bif decide ((nt : Int) ≤ symQ ps p q) then symQ ps p q - nt else 0) (decide ((nt : Int) ≤ symQ ps p q)) a b (at_.map avAttr) (at_.length : Int) 0 T N own (ps.map avProd) (at_.map avAttr) E =
      some (((w + sumN (fun k => b2n (wantQ nt at_ ps p q k)) at_.length : Nat) : Int), (p : Int), (q : Int), a, b, T, N, own, ps.map avProd, at_.map avAttr, E) := by
  have h20 := ha.1
  have e := loop_run (fun k (s : Nat) => Li_AgOK_5 (s : Int) (p : Int) (q : Int) (bif decide ((nt : Int) ≤ symQ ps p q) then symQ ps p q - nt else 0) (decide ((nt : Int) ≤ symQ ps p q)) a b (at_.map avAttr) (at_.length : Int) (k : Int) T N own (ps.map avProd) (at_.map avAttr) E) at_.length (fun k s => s + b2n (wantQ nt at_ ps p q k)) (fun s : Nat => ((s : Int), (p : Int), (q : Int), a, b, T, N, own, ps.map avProd, at_.map avAttr, E)) (fun k s => s ≤ 1000000 + k)
    (fun s hs => by
      refine li_AgOK_5 _ _ _ _ _ _ _ _ _ _ _ _ _ _ _ _ ?_
      simp only [lt_self, cond_false])
    (fun k hk s hs y hy => by
      refine li_AgOK_5 _ _ _ _ _ _ _ _ _ _ _ _ _ _ _ _ ?_
      rw [← hy]
      have hr := ha.2 k hk
      have hin : inQ 0 ((at_.length : Int) - 1) (k : Int) = true := by simp only [inQ, Bool.and_eq_true, decide_eq_true_eq]; omega
      have hws := wrap_i (show s < 9000000000000000000 by omega)
      simp only [List.length_map, lt_true hk, d0_true, Bool.and_self, cond_true, Int.toNat_natCast, getD_map' avAttr aD hk, sh_Attr, c0_Attr, c2_Attr, hws, wrap_i (show k < 9000000000000000000 by omega), wantQ, hasQ, hin, Bool.true_and]
      generalize symQ ps (p : Int) (q : Int) = z
      by_cases g1 : (nt : Int) ≤ z
      · have e1 : decide ((at_.getD k aD).1 = z - nt) = decide (z = (nt : Int) + (at_.getD k aD).1) := by congr 1; apply propext; omega
        simp only [g1, decide_true, cond_true, e1]
        cases decide (z = (nt : Int) + (at_.getD k aD).1) with
        | false => rfl
        | true =>
          cases (at_.getD k aD).2.2 <;> cases decide ((q : Int) = 0) <;> rfl
      · have e1 : decide (z = (nt : Int) + (at_.getD k aD).1) = false := by simp only [decide_eq_false_iff_not]; omega
        simp only [g1, decide_false, cond_false, e1, Bool.false_and, b2n, Nat.add_zero])
    (fun k hk s hs => by
      have : b2n (wantQ nt at_ ps p q k) ≤ 1 := by cases wantQ nt at_ ps p q k <;> simp [b2n]
      omega) at_.length 0 (by omega) w (by omega)
  simp only [Int.natCast_zero] at e
  rw [e, sumF0]
theorem c5_le (p q : Nat) : sumN (fun k => b2n (wantQ nt at_ ps p q k)) at_.length ≤ at_.length := by
  have := sumN_b (c := fun k => b2n (wantQ nt at_ ps p q k)) (B := 1) (n := at_.length) fun k _ => by cases wantQ nt at_ ps p q k <;> simp [b2n]
  omega
theorem pl_i4 (g : PG nt nn ps) (ha : AG nn at_) (T : List AVal) (hT : T.length = nt) (N : List AVal) (own : Int) (E : List AVal) {p : Nat} (hp : p < ps.length) (a b : Int) (w : Nat) (hw : w ≤ 500000) :
    Li_AgOK_4 (w : Int) (p : Int) 0 a b T N own (ps.map avProd) (at_.map avAttr) E = some (((w + sumN (fun q => sumN (fun k => b2n (wantQ nt at_ ps p q k)) at_.length) (lenP ps p) : Nat) : Int), a, b, T, N, own, ps.map avProd, at_.map avAttr, E) := by
  have h20 := ha.1
  have hl12 := g.len p hp
  have e := loop_run (fun q (s : Nat) => Li_AgOK_4 (s : Int) (p : Int) (q : Int) a b T N own (ps.map avProd) (at_.map avAttr) E) (lenP ps p) (fun q s => s + sumN (fun k => b2n (wantQ nt at_ ps p q k)) at_.length) (fun s : Nat => ((s : Int), a, b, T, N, own, ps.map avProd, at_.map avAttr, E)) (fun q s => s ≤ 500000 + 20 * q)
    (fun s hs => by
      refine li_AgOK_4 _ _ _ _ _ _ _ _ _ _ _ ?_
      have : decide (((lenP ps p : Nat) : Int) ≤ ((ps.getD p pD).2.1.length : Int)) = false := decide_eq_false (by unfold lenP; omega)
      simp only [List.length_map, lt_true hp, d0_true, Bool.and_self, cond_true, Int.toNat_natCast, getD_map' avProd pD hp, p1_Prod, c1_Prod, this, cond_false])
    (fun q hq s hs y hy => by
      refine li_AgOK_4 _ _ _ _ _ _ _ _ _ _ _ ?_
      rw [← hy]
      unfold lenP at hq
      have h0 : decide (((q : Nat) : Int) ≤ ((ps.getD p pD).2.1.length : Int)) = true := decide_eq_true (by omega)
      have n1 : ∀ (c : Bool) (x : Int) (d : Bool), (bif c then (x, true, false) else ((0 : Int), false, d)).1 = (bif c then x else 0) := fun c x d => by cases c <;> rfl
      have n2 : ∀ (c : Bool) (x : Int) (d : Bool), (bif c then (x, true, false) else ((0 : Int), false, d)).2.1 = c := fun c x d => by cases c <;> rfl
      simp only [List.length_map, lt_true hp, d0_true, Bool.and_self, cond_true, Int.toNat_natCast, getD_map' avProd pD hp, p1_Prod, c1_Prod, h0, non_impl g T hT N own (q : Int) hp, Option.bind_some, n1, n2, pl_i5 ha T N own E p q a b s (by omega), wrap_i (show q < 9000000000000000000 by omega)])
    (fun q hq s hs => by
      have := c5_le (nt := nt) (ps := ps) (at_ := at_) p q
      omega) (lenP ps p) 0 (by omega) w (by omega)
  simp only [Int.natCast_zero] at e
  rw [e, sumF0]
theorem c4_le (g : PG nt nn ps) (ha : AG nn at_) {p : Nat} (hp : p < ps.length) : sumN (fun q => sumN (fun k => b2n (wantQ nt at_ ps p q k)) at_.length) (lenP ps p) ≤ 260 := by
  have h1 := sumN_b (c := fun q => sumN (fun k => b2n (wantQ nt at_ ps p q k)) at_.length) (B := 20) (n := lenP ps p) fun q _ => Nat.le_trans (c5_le p q) ha.1
  have h2 := g.len p hp
  have h3 : lenP ps p ≤ 13 := by unfold lenP; omega
  have := Nat.mul_le_mul_right 20 h3
  omega
theorem pl_i3 (g : PG nt nn ps) (ha : AG nn at_) (T : List AVal) (hT : T.length = nt) (N : List AVal) (own : Int) (E : List AVal) :
    Li_AgOK_3 0 (ps.length : Int) 0 T N own (ps.map avProd) (at_.map avAttr) E = some ((sum3 (fun p q a => b2n (wantQ nt at_ ps p q a)) ps.length (lenP ps) at_.length : Int), at_.map avAttr, E) := by
  have h120 := g.hps
  have e := loop_run (fun p (s : Nat) => Li_AgOK_3 (s : Int) (ps.length : Int) (p : Int) T N own (ps.map avProd) (at_.map avAttr) E) ps.length (fun p s => s + sumN (fun q => sumN (fun k => b2n (wantQ nt at_ ps p q k)) at_.length) (lenP ps p)) (fun s : Nat => ((s : Int), at_.map avAttr, E)) (fun p s => s ≤ 260 * p)
    (fun s hs => by
      refine li_AgOK_3 _ _ _ _ _ _ _ _ _ ?_
      simp only [lt_self, cond_false])
    (fun p hp s hs y hy => by
      refine li_AgOK_3 _ _ _ _ _ _ _ _ _ ?_
      rw [← hy]
      simp only [lt_true hp, cond_true, pl_i4 g ha T hT N own E hp (ps.length : Int) (p : Int) s (by omega), Option.bind_some, wrap_i (show p < 9000000000000000000 by omega)])
    (fun p hp s hs => by
      have := c4_le g ha hp
      omega) ps.length 0 (by omega) 0 (by omega)
  simp only [Int.natCast_zero] at e
  rw [e, sumF0]
  simp only [Nat.zero_add]; rfl
end
end Go.Proofs.Ytlgdkbacfgjcnaa
