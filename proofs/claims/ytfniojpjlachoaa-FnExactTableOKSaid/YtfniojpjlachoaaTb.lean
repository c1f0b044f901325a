/- Tables: what TableOK asks, in the reference and in the program; no condition. -/
import Derived.Test.YtfniojpjlachoaaBo
import Derived.Test.YtfniojpjlachoaaBtb
namespace Go.Proofs.Ytfniojpjlachoaa
open Go.VK AVal
theorem inQ_nt (lo hi x : Int) : inQ lo hi x = (!decide (x < lo) && !decide (hi < x)) := by
  rw [Bool.eq_iff_iff]
  simp only [inQ, Bool.and_eq_true, decide_eq_true_eq, Bool.not_eq_true', decide_eq_false_iff_not]
  omega
def aD : ActD := (0, 0)
def actQ (n np : Int) (a : ActD) : Bool := inQ 0 3 a.1 && inQ 0 (bif decide (a.1 = 2) then np - 1 else bif decide (a.1 = 1) then n - 1 else 0) a.2
def arow (aa : List (List ActD)) (i : Nat) : List ActD := aa.getD i []
def grow (gs : List (List Int)) (i : Nat) : List Int := gs.getD i []
def rowQ (nt nn np n : Nat) (aa : List (List ActD)) (gs : List (List Int)) (i : Nat) : Bool :=
  decide ((arow aa i).length = nt + 1) && (decide ((grow gs i).length = nn) && (allN (fun k => actQ n np ((arow aa i).getD k aD)) (arow aa i).length && allN (fun k => inQ (-1) ((n : Int) - 1) ((grow gs i).getD k 0)) (grow gs i).length))
def tabQ (ts : List TermD) (ns : List ByteArray) (own : Int) (ps : List ProdD) (aa : List (List ActD)) (gs : List (List Int)) : Bool :=
  bnfQ ts ns own ps && (inQ 1 250 aa.length && (decide (gs.length = aa.length) && allN (rowQ ts.length ns.length ps.length aa.length aa gs) aa.length))
theorem t_sh (x : List ActD) : CT.shape (.slice 2) (avActS x) = true := rfl
theorem t_el (x : List ActD) : (avActS x).elems = x.map avAct := rfl
theorem t_sh1 (x : List Int) : CT.shape (.slice 1) (avIntS x) = true := rfl
theorem t_el1 (x : List Int) : (avIntS x).elems = x.map iv := rfl
theorem arow_get {aa : List (List ActD)} {i : Nat} (h : i < aa.length) : (aa.map avActS).getD i .und = avActS (arow aa i) := getD_map' avActS [] h
theorem grow_get {gs : List (List Int)} {i : Nat} (h : i < gs.length) : (gs.map avIntS).getD i .und = avIntS (grow gs i) := getD_map' avIntS [] h
section
variable (T N : List AVal) (own : Int) (ps : List ProdD) (hp : ps.length ≤ 120) (aa : List (List ActD)) (gs : List (List Int)) (ha : aa.length ≤ 250) (hg : gs.length = aa.length)
include hp ha in
theorem tb_s1 {i : Nat} (hi : i < aa.length) (hl : (arow aa i).length ≤ 1048576) :
    Ls_TableOK_1 (aa.length : Int) (i : Int) 0 T N own (ps.map avProd) (aa.map avActS) (gs.map avIntS) = some (bif allN (fun k => actQ aa.length ps.length ((arow aa i).getD k aD)) (arow aa i).length then .inr ((aa.length : Int), (i : Int), T, N, own, ps.map avProd, aa.map avActS, gs.map avIntS) else .inl false) := by
  have e := loop_all (fun k => Ls_TableOK_1 (aa.length : Int) (i : Int) (k : Int) T N own (ps.map avProd) (aa.map avActS) (gs.map avIntS)) (arow aa i).length (fun k => actQ aa.length ps.length ((arow aa i).getD k aD)) ((aa.length : Int), (i : Int), T, N, own, ps.map avProd, aa.map avActS, gs.map avIntS) (by
      refine ls_TableOK_1 _ _ _ _ _ _ _ _ _ ?_
      simp only [List.length_map, lt_true hi, d0_true, Bool.and_self, cond_true, cond_false, Int.toNat_natCast, arow_get hi, t_sh, t_el, lt_self]) (fun k hk y hy => by
      refine ls_TableOK_1 _ _ _ _ _ _ _ _ _ ?_
      rw [← hy]
      have w1 : IntKind.wrap .i64 ((ps.length : Int) - 1) = (ps.length : Int) - 1 := wrap64 (by omega) (by omega)
      have w2 : IntKind.wrap .i64 ((aa.length : Int) - 1) = (aa.length : Int) - 1 := wrap64 (by omega) (by omega)
      simp only [List.length_map, lt_true hi, lt_true hk, d0_true, Bool.and_self, cond_true, cond_false, Int.toNat_natCast, arow_get hi, t_sh, t_el, getD_map' avAct aD hk, sh_Act, c0_Act, c1_Act, s61', Option.bind_some, w1, w2, wrap_i (show k < 9000000000000000000 by omega), actQ]
      generalize (arow aa i).getD k aD = a
      by_cases g1 : a.1 = 1
      · have g2 : ¬ a.1 = 2 := by omega
        simp only [g1, show ¬ (1 : Int) = 2 by omega, decide_true, decide_false, cond_true, cond_false]
        cases inQ 0 3 1 <;> cases inQ 0 ((aa.length : Int) - 1) a.2 <;> rfl
      · by_cases g2 : a.1 = 2
        · simp only [g2, show ¬ (2 : Int) = 1 by omega, decide_true, decide_false, cond_true, cond_false]
          cases inQ 0 3 2 <;> cases inQ 0 ((ps.length : Int) - 1) a.2 <;> rfl
        · simp only [g1, g2, decide_false, cond_false]
          cases inQ 0 3 a.1 <;> cases inQ 0 0 a.2 <;> rfl)
  simpa using e
include ha hg in
theorem tb_s2 (P : List AVal) {i : Nat} (hi : i < aa.length) (hl : (grow gs i).length ≤ 1048576) :
    Ls_TableOK_2 (aa.length : Int) (i : Int) 0 T N own P (aa.map avActS) (gs.map avIntS) = some (bif allN (fun k => inQ (-1) ((aa.length : Int) - 1) ((grow gs i).getD k 0)) (grow gs i).length then .inr ((aa.length : Int), (i : Int), T, N, own, P, aa.map avActS, gs.map avIntS) else .inl false) := by
  have hi2 : i < gs.length := by omega
  have e := loop_all (fun k => Ls_TableOK_2 (aa.length : Int) (i : Int) (k : Int) T N own P (aa.map avActS) (gs.map avIntS)) (grow gs i).length (fun k => inQ (-1) ((aa.length : Int) - 1) ((grow gs i).getD k 0)) ((aa.length : Int), (i : Int), T, N, own, P, aa.map avActS, gs.map avIntS) (by
      refine ls_TableOK_2 _ _ _ _ _ _ _ _ _ ?_
      simp only [List.length_map, lt_true hi2, d0_true, Bool.and_self, cond_true, cond_false, Int.toNat_natCast, grow_get hi2, t_sh1, t_el1, lt_self]) (fun k hk y hy => by
      refine ls_TableOK_2 _ _ _ _ _ _ _ _ _ ?_
      rw [← hy]
      have w2 : IntKind.wrap .i64 ((aa.length : Int) - 1) = (aa.length : Int) - 1 := wrap64 (by omega) (by omega)
      simp only [List.length_map, lt_true hi2, lt_true hk, d0_true, Bool.and_self, cond_true, cond_false, Int.toNat_natCast, grow_get hi2, t_sh1, t_el1, getD_map' iv 0 hk, e_int, e_toInt, s61', Option.bind_some, w2, wrap_i (show k < 9000000000000000000 by omega)]
      cases inQ (-1) ((aa.length : Int) - 1) ((grow gs i).getD k 0) <;> rfl)
  simpa using e
end
theorem tb_s0 (ts : List TermD) (N : List ByteArray) (own : Int) (ps : List ProdD) (ht : ts.length ≤ 60) (hp : ps.length ≤ 120) (hn : N.length ≤ 100) (aa : List (List ActD)) (gs : List (List Int)) (ha : aa.length ≤ 250) (hg : gs.length = aa.length) :
    Ls_TableOK_0 (aa.length : Int) 0 (ts.map avTerm) (N.map sv) own (ps.map avProd) (aa.map avActS) (gs.map avIntS) = some (bif allN (rowQ ts.length N.length ps.length aa.length aa gs) aa.length then .inr () else .inl false) := by
  have e := loop_all (fun i => Ls_TableOK_0 (aa.length : Int) (i : Int) (ts.map avTerm) (N.map sv) own (ps.map avProd) (aa.map avActS) (gs.map avIntS)) aa.length (rowQ ts.length N.length ps.length aa.length aa gs) () (by
      refine ls_TableOK_0 _ _ _ _ _ _ _ _ ?_
      simp only [lt_self, cond_false]) (fun i hi y hy => by
      refine ls_TableOK_0 _ _ _ _ _ _ _ _ ?_
      rw [← hy]
      have hi2 : i < gs.length := by omega
      have w1 : IntKind.wrap .i64 ((ts.length : Int) + 1) = ((ts.length + 1 : Nat) : Int) := by rw [wrap64 (by omega) (by omega)]; omega
      simp only [List.length_map, lt_true hi, lt_true hi2, d0_true, Bool.and_self, cond_true, Int.toNat_natCast, arow_get hi, grow_get hi2, t_sh, t_el, t_sh1, t_el1, w1, rowQ]
      by_cases g1 : (arow aa i).length = ts.length + 1
      · have g1' : ((arow aa i).length : Int) = ((ts.length + 1 : Nat) : Int) := by omega
        by_cases g2 : (grow gs i).length = N.length
        · have g2' : ((grow gs i).length : Int) = (N.length : Int) := by omega
          rw [decide_eq_true g1, decide_eq_true g2, decide_eq_true g1', decide_eq_true g2']
          simp only [Bool.not_true, cond_false, Bool.true_and, tb_s1 _ _ own ps hp aa gs ha hi (by omega)]
          cases allN (fun k => actQ aa.length ps.length ((arow aa i).getD k aD)) (arow aa i).length with
          | false => rfl
          | true =>
            simp only [cond_true, Option.bind_some, Sum.elim_inr, tb_s2 _ _ own aa gs ha hg _ hi (by omega), Bool.true_and]
            cases allN (fun k => inQ (-1) ((aa.length : Int) - 1) ((grow gs i).getD k 0)) (grow gs i).length with
            | false => rfl
            | true => simp only [cond_true, Option.bind_some, Sum.elim_inr, wrap_i (show i < 9000000000000000000 by omega)]
        · have g2' : ¬ ((grow gs i).length : Int) = (N.length : Int) := by omega
          rw [decide_eq_true g1, decide_eq_false g2, decide_eq_true g1', decide_eq_false g2']
          rfl
      · have g1' : ¬ ((arow aa i).length : Int) = ((ts.length + 1 : Nat) : Int) := by omega
        rw [decide_eq_false g1, decide_eq_false g1']
        rfl)
  simpa using e
theorem bnfQ_b {ts : List TermD} {ns : List ByteArray} {own : Int} {ps : List ProdD} (h : bnfQ ts ns own ps = true) : ts.length ≤ 60 ∧ ns.length ≤ 100 ∧ ps.length ≤ 120 := by
  simp only [bnfQ, Bool.and_eq_true, decide_eq_true_eq, inQ] at h
  omega
theorem tb_spec (ts : List TermD) (ns : List ByteArray) (own : Int) (ps : List ProdD) (aa : List (List ActD)) (gs : List (List Int)) :
    Fs_TableOK (ts.map avTerm) (ns.map sv) own (ps.map avProd) (aa.map avActS) (gs.map avIntS) = some (tabQ ts ns own ps aa gs) := by
  refine us_TableOK _ _ _ _ _ _ ?_
  unfold tabQ
  simp only [bo_spec, Option.bind_some, List.length_map]
  cases g : bnfQ ts ns own ps with
  | false => rfl
  | true =>
    obtain ⟨b1, b2, b3⟩ := bnfQ_b g
    simp only [Bool.not_true, cond_false, s61', Option.bind_some, Bool.true_and]
    cases g2 : inQ 1 250 (aa.length : Int) with
    | false => rfl
    | true =>
      have b4 : aa.length ≤ 250 := by simp only [inQ, Bool.and_eq_true, decide_eq_true_eq] at g2; omega
      by_cases g3 : gs.length = aa.length
      · have g3' : (gs.length : Int) = (aa.length : Int) := by omega
        rw [decide_eq_true g3, decide_eq_true g3', tb_s0 ts ns own ps b1 b3 b2 aa gs b4 g3]
        simp only [Bool.not_true, cond_false, Bool.true_and]
        cases allN (rowQ ts.length ns.length ps.length aa.length aa gs) aa.length <;> rfl
      · have g3' : ¬ (gs.length : Int) = (aa.length : Int) := by omega
        rw [decide_eq_false g3, decide_eq_false g3']
        rfl
/-! The program -/
theorem act_i (n np : Int) (a : ActD) : (bif decide (a.1 = 0) then (bif decide (a.1 = 0) then decide (a.2 = 0) else bif decide (a.1 = 1) then decide (0 ≤ a.2) && decide (a.2 < n) else bif decide (a.1 = 2) then decide (0 ≤ a.2) && decide (a.2 < np) else false) else bif decide (a.1 = 3) then decide (a.2 = 0) else bif decide (a.1 = 1) then decide (0 ≤ a.2) && decide (a.2 < n) else bif decide (a.1 = 2) then decide (0 ≤ a.2) && decide (a.2 < np) else false) = actQ n np a := by
  unfold actQ inQ
  rw [Bool.eq_iff_iff]
  by_cases g0 : a.1 = 0
  · simp [g0]; omega
  · by_cases g3 : a.1 = 3
    · simp [g3]; omega
    · by_cases g1 : a.1 = 1
      · simp [g1]; omega
      · by_cases g2 : a.1 = 2
        · simp [g2]; omega
        · simp [g0, g1, g2, g3]; omega
theorem tb_i1 (x1 x2 x3 : Int) (T N : List AVal) (own : Int) (ps : List ProdD) (r : List ActD) (hr : r.length ≤ 1048576) (n : Int) (A G : List AVal) :
    Li_TableOK_1 n x1 x2 x3 (r.map avAct) (r.length : Int) 0 T N own (ps.map avProd) A G = some (bif allN (fun k => actQ n ps.length (r.getD k aD)) r.length then .inr (n, x1, x2, x3, T, N, own, ps.map avProd, A, G) else .inl false) := by
  have e := loop_all (fun k => Li_TableOK_1 n x1 x2 x3 (r.map avAct) (r.length : Int) (k : Int) T N own (ps.map avProd) A G) r.length (fun k => actQ n ps.length (r.getD k aD)) (n, x1, x2, x3, T, N, own, ps.map avProd, A, G) (by
      refine li_TableOK_1 _ _ _ _ _ _ _ _ _ _ _ _ _ ?_
      simp only [lt_self, cond_false]) (fun k hk y hy => by
      refine li_TableOK_1 _ _ _ _ _ _ _ _ _ _ _ _ _ ?_
      rw [← hy]
      simp only [List.length_map, lt_true hk, d0_true, Bool.and_self, cond_true, Int.toNat_natCast, getD_map' avAct aD hk, sh_Act, c0_Act, c1_Act, wrap_i (show k < 9000000000000000000 by omega), ← act_i]
      generalize r.getD k aD = a
      by_cases g0 : a.1 = 0
      · simp only [g0, decide_true, cond_true]; cases decide (a.2 = 0) <;> rfl
      · by_cases g3 : a.1 = 3
        · simp only [g3, show ¬ (3 : Int) = 0 by omega, decide_true, decide_false, cond_true, cond_false]; cases decide (a.2 = 0) <;> rfl
        · by_cases g1 : a.1 = 1
          · simp only [g1, show ¬ (1 : Int) = 0 by omega, show ¬ (1 : Int) = 3 by omega, decide_true, decide_false, cond_true, cond_false]; cases decide (0 ≤ a.2) <;> cases decide (a.2 < n) <;> rfl
          · by_cases g2 : a.1 = 2
            · simp only [g2, show ¬ (2 : Int) = 0 by omega, show ¬ (2 : Int) = 1 by omega, show ¬ (2 : Int) = 3 by omega, decide_true, decide_false, cond_true, cond_false]; cases decide (0 ≤ a.2) <;> cases decide (a.2 < (ps.length : Int)) <;> rfl
            · simp only [g0, g1, g2, g3, decide_false, cond_false])
  simpa using e
theorem tb_i2 (x1 x2 : Int) (T N P : List AVal) (own : Int) (r : List Int) (hr : r.length ≤ 1048576) (n : Nat) (hn : n ≤ 250) (A G : List AVal) :
    Li_TableOK_2 (n : Int) x1 x2 (r.map iv) (r.length : Int) 0 T N own P A G = some (bif allN (fun k => inQ (-1) ((n : Int) - 1) (r.getD k 0)) r.length then .inr ((n : Int), x1, x2, T, N, own, P, A, G) else .inl false) := by
  have e := loop_all (fun k => Li_TableOK_2 (n : Int) x1 x2 (r.map iv) (r.length : Int) (k : Int) T N own P A G) r.length (fun k => inQ (-1) ((n : Int) - 1) (r.getD k 0)) ((n : Int), x1, x2, T, N, own, P, A, G) (by
      refine li_TableOK_2 _ _ _ _ _ _ _ _ _ _ _ _ ?_
      simp only [lt_self, cond_false]) (fun k hk y hy => by
      refine li_TableOK_2 _ _ _ _ _ _ _ _ _ _ _ _ ?_
      rw [← hy]
      have q : ∀ x : Int, inQ (-1) ((n : Int) - 1) x = (!decide (x < -1) && !decide ((n : Int) ≤ x)) := fun x => by
        rw [Bool.eq_iff_iff]
        simp only [inQ, Bool.and_eq_true, decide_eq_true_eq, Bool.not_eq_true', decide_eq_false_iff_not]
        omega
      simp only [List.length_map, lt_true hk, d0_true, Bool.and_self, cond_true, Int.toNat_natCast, getD_map' iv 0 hk, e_int, e_toInt, wrap_i (show k < 9000000000000000000 by omega), q]
      cases decide (r.getD k 0 < -1) with
      | true => rfl
      | false => cases decide ((n : Int) ≤ r.getD k 0) <;> rfl)
  simpa using e
theorem tb_i0 (ts : List TermD) (N : List ByteArray) (own : Int) (ps : List ProdD) (ht : ts.length ≤ 60) (hn : N.length ≤ 100) (aa : List (List ActD)) (gs : List (List Int)) (ha : aa.length ≤ 250) (hg : gs.length = aa.length) :
    Li_TableOK_0 (aa.length : Int) (aa.length : Int) 0 (ts.map avTerm) (N.map sv) own (ps.map avProd) (aa.map avActS) (gs.map avIntS) = some (bif allN (rowQ ts.length N.length ps.length aa.length aa gs) aa.length then .inr () else .inl false) := by
  have e := loop_all (fun i => Li_TableOK_0 (aa.length : Int) (aa.length : Int) (i : Int) (ts.map avTerm) (N.map sv) own (ps.map avProd) (aa.map avActS) (gs.map avIntS)) aa.length (rowQ ts.length N.length ps.length aa.length aa gs) () (by
      refine li_TableOK_0 _ _ _ _ _ _ _ _ _ ?_
      simp only [lt_self, cond_false]) (fun i hi y hy => by
      refine li_TableOK_0 _ _ _ _ _ _ _ _ _ ?_
      rw [← hy]
      have hi2 : i < gs.length := by omega
      have w1 : IntKind.wrap .i64 ((ts.length : Int) + 1) = ((ts.length + 1 : Nat) : Int) := by rw [wrap64 (by omega) (by omega)]; omega
      simp only [List.length_map, lt_true hi, lt_true hi2, d0_true, Bool.and_self, cond_true, Int.toNat_natCast, arow_get hi, grow_get hi2, t_sh, t_el, t_sh1, t_el1, w1, rowQ]
      by_cases g1 : (arow aa i).length = ts.length + 1
      · have g1' : ((arow aa i).length : Int) = ((ts.length + 1 : Nat) : Int) := by omega
        by_cases g2 : (grow gs i).length = N.length
        · have g2' : ((grow gs i).length : Int) = (N.length : Int) := by omega
          rw [decide_eq_true g1, decide_eq_true g2, decide_eq_true g1', decide_eq_true g2']
          simp only [Bool.not_true, cond_false, Bool.true_and, tb_i1 _ _ _ _ _ own ps (arow aa i) (by omega)]
          cases allN (fun k => actQ aa.length ps.length ((arow aa i).getD k aD)) (arow aa i).length with
          | false => rfl
          | true =>
            simp only [cond_true, Option.bind_some, Sum.elim_inr, List.length_map, lt_true hi2, d0_true, Bool.and_self, Int.toNat_natCast, grow_get hi2, t_sh1, t_el1, tb_i2 _ _ _ _ _ own (grow gs i) (by omega) aa.length ha, Bool.true_and]
            cases allN (fun k => inQ (-1) ((aa.length : Int) - 1) ((grow gs i).getD k 0)) (grow gs i).length with
            | false => rfl
            | true => simp only [cond_true, Option.bind_some, Sum.elim_inr, wrap_i (show i < 9000000000000000000 by omega)]
        · have g2' : ¬ ((grow gs i).length : Int) = (N.length : Int) := by omega
          rw [decide_eq_true g1, decide_eq_false g2, decide_eq_true g1', decide_eq_false g2']
          rfl
      · have g1' : ¬ ((arow aa i).length : Int) = ((ts.length + 1 : Nat) : Int) := by omega
        rw [decide_eq_false g1, decide_eq_false g1']
        rfl)
  simpa using e
theorem tb_impl (ts : List TermD) (ns : List ByteArray) (own : Int) (ps : List ProdD) (aa : List (List ActD)) (gs : List (List Int)) :
    Fi_TableOK (ts.map avTerm) (ns.map sv) own (ps.map avProd) (aa.map avActS) (gs.map avIntS) = some (tabQ ts ns own ps aa gs) := by
  refine ui_TableOK _ _ _ _ _ _ ?_
  unfold tabQ
  simp only [bo_impl, Option.bind_some, List.length_map]
  cases g : bnfQ ts ns own ps with
  | false => rfl
  | true =>
    obtain ⟨b1, b2, b3⟩ := bnfQ_b g
    simp only [Bool.not_true, cond_false, Bool.true_and, inQ_nt]
    by_cases g1 : (aa.length : Int) < 1
    · simp only [g1, decide_true, cond_true, Bool.not_true, Bool.false_and]
    · by_cases g2 : (250 : Int) < (aa.length : Int)
      · simp only [g1, g2, decide_true, decide_false, cond_true, cond_false, Bool.not_true, Bool.and_false, Bool.false_and]
      · have b4 : aa.length ≤ 250 := by omega
        simp only [g1, g2, decide_false, cond_false, Bool.not_false, Bool.and_self, Bool.true_and]
        by_cases g3 : gs.length = aa.length
        · have g3' : (gs.length : Int) = (aa.length : Int) := by omega
          rw [decide_eq_true g3, decide_eq_true g3', tb_i0 ts ns own ps b1 b2 aa gs b4 g3]
          simp only [Bool.not_true, cond_false, Bool.true_and]
          cases allN (rowQ ts.length ns.length ps.length aa.length aa gs) aa.length <;> rfl
        · have g3' : ¬ (gs.length : Int) = (aa.length : Int) := by omega
          rw [decide_eq_false g3, decide_eq_false g3']
          rfl
end Go.Proofs.Ytfniojpjlachoaa
