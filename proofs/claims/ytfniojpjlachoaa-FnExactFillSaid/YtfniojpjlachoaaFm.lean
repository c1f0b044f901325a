/- Fill: both sides, the law; no condition. -/
import Derived.Test.YtfniojpjlachoaaFl
namespace Go.Proofs.Ytfniojpjlachoaa
open Go.VK AVal
open Tr
def zT : Tr := .mk ByteArray.empty ByteArray.empty false []
def bdsF : List ByteArray → List Bd → Bool
  | _, [] => true
  | seen, b :: r => nmOK b.1 && (tokB2 b.2 && (!(seen.any fun x => decide (b.1 = x)) && bdsF (seen ++ [b.1]) r))
theorem oneB : CT.shape (.int .i64) (iv 1) = true := rfl
theorem bf_i (n t : ByteArray) (l : Bool) (K : List AVal) : ∀ (ks pre : List Bd), (pre ++ ks).length ≤ 1048576 → (∀ b ∈ ks, sz b.2 ≤ 1048576) →
    Li_Fill_0 ((pre ++ ks).map avB) ((pre ++ ks).map avB) ((pre ++ ks).length : Int) (pre.length : Int) n t l K ByteArray.empty ByteArray.empty false [] (dS (ones (pre.map Prod.fst))) = some (bif bdsF (pre.map Prod.fst) ks then .inr ((pre ++ ks).map avB, n, t, l, K, ByteArray.empty, ByteArray.empty, false, []) else .inl (1, ByteArray.empty, ByteArray.empty, false, []))
  | [], pre, hl, hs => by
    refine li_Fill_0 _ _ _ _ _ _ _ _ _ _ _ _ _ ?_
    simp [bdsF]
  | b :: ks, pre, hl, hs => by
    have hm := mid_len pre ks b
    have e := bf_i n t l K ks (pre ++ [b]) (by simpa using hl) (fun x hx => hs x (by simp [hx]))
    simp only [List.append_assoc, List.cons_append, List.nil_append, el1, List.map_append, List.map_cons, List.map_nil, ones_snoc, dS_snoc] at e
    have hg := dS_get (ones (pre.map Prod.fst)) b.1
    have hd := dlast_ones (pre.map Prod.fst) b.1
    refine li_Fill_0 _ _ _ _ _ _ _ _ _ _ _ _ _ ?_
    simp only [List.length_map, Int.toNat_natCast, map_mid, dlt_true hm, d0_true, Bool.and_self, cond_true, b_sh, b_0, b_1, b_2, b_3, b_4, s87, s32 b.2 (hs b (by simp)), Option.bind_some, wrap_succ hm (by omega), hg, hd, oiv_getD, bdsF]
    cases nmOK b.1 with
    | false => rfl
    | true =>
      cases tokB2 b.2 with
      | false => rfl
      | true =>
        cases g : (pre.map Prod.fst).any (fun x => decide (b.1 = x)) with
        | true => rfl
        | false =>
          have e1 : mpIns (.str b.1) (.int .i64 1) (dS (ones (pre.map Prod.fst))) = mpIns (.str (b.1, (1 : Int)).1) (iv (b.1, (1 : Int)).2) (dS (ones (pre.map Prod.fst))) := rfl
          have e2 : CT.shape (.int .i64) (iv ((none : Option Int).getD 0)) = true := rfl
          have e3 : decide (0 < (iv ((none : Option Int).getD 0)).toInt) = false := rfl
          simp only [cond_true, cond_false, Bool.not_true, Bool.not_false, Bool.true_and, e2, e3, e1]
          rw [List.map_append, List.map_cons, e]
theorem first_at {n : ByteArray} {q s pre ks : List Bd} {x b : Bd} (he : q ++ x :: s = pre ++ b :: ks) (hq : ∀ y ∈ q, y.1 ≠ n) (hx : x.1 = n) (hb : b.1 = n) : q.length = pre.length ↔ ∀ y ∈ pre, y.1 ≠ n := by
  rw [List.append_eq_append_iff] at he
  rcases he with ⟨az, h1, h2⟩ | ⟨cs, h1, h2⟩
  · cases az with
    | nil => simp only [List.append_nil] at h1; subst h1; exact ⟨fun _ => hq, fun _ => rfl⟩
    | cons a az =>
      simp only [List.cons_append, List.cons.injEq] at h2
      obtain ⟨rfl, rfl⟩ := h2
      subst h1
      constructor
      · intro h; simp at h
      · intro h; exact absurd hx (h x (by simp))
  · cases cs with
    | nil => simp only [List.append_nil] at h1; subst h1; exact ⟨fun _ => hq, fun _ => rfl⟩
    | cons c cs =>
      simp only [List.cons_append, List.cons.injEq] at h2
      obtain ⟨rfl, rfl⟩ := h2
      subst h1
      exact absurd hb (hq b (by simp))
theorem bf_s (n t : ByteArray) (l : Bool) (K : List AVal) : ∀ (ks pre : List Bd), (pre ++ ks).length ≤ 1048576 → (∀ b ∈ ks, sz b.2 ≤ 1048576) →
    Ls_Fill_0 ((pre ++ ks).map avB) (pre.length : Int) n t l K ByteArray.empty ByteArray.empty false [] = some (bif bdsF (pre.map Prod.fst) ks then .inr ((pre ++ ks).map avB, n, t, l, K, ByteArray.empty, ByteArray.empty, false, []) else .inl (1, ByteArray.empty, ByteArray.empty, false, []))
  | [], pre, hl, hs => by
    refine ls_Fill_0 _ _ _ _ _ _ _ _ _ _ ?_
    simp [bdsF]
  | b :: ks, pre, hl, hs => by
    have hm := mid_len pre ks b
    have e := bf_s n t l K ks (pre ++ [b]) (by simpa using hl) (fun x hx => hs x (by simp [hx]))
    simp only [List.append_assoc, List.cons_append, List.nil_append, el1] at e
    obtain ⟨r, er, hr⟩ := fd_s (pre ++ b :: ks) b.1 hl
    have hd : decide (r = (pre.length : Int)) = !((pre.map Prod.fst).any fun x => decide (b.1 = x)) := by
      rcases hr with ⟨q, x, s, hx, h1, h2, rfl⟩ | ⟨h1, _⟩
      · have := first_at hx.symm h1 h2 rfl
        rw [Bool.eq_iff_iff, decide_eq_true_eq, Bool.not_eq_true', ← Bool.not_eq_true, List.any_eq_true]
        constructor
        · rintro h ⟨z, hz, e⟩
          obtain ⟨y, hy, rfl⟩ := List.mem_map.1 hz
          exact (this.1 (by omega)) y hy (of_decide_eq_true e).symm
        · intro h
          have := this.2 fun y hy e => h ⟨y.1, List.mem_map.2 ⟨y, hy, rfl⟩, by simp [e]⟩
          omega
      · exact absurd rfl (h1 b (by simp))
    refine ls_Fill_0 _ _ _ _ _ _ _ _ _ _ ?_
    simp only [List.length_map, Int.toNat_natCast, map_mid, dlt_true hm, d0_true, Bool.and_self, cond_true, b_sh1, b_p0, b_0, b_1, b_2, b_3, b_4, s108, s30 b.2 (hs b (by simp)), Option.bind_some, wrap_succ hm (by omega), er, hd, e, bdsF]
    rw [show (pre ++ [b]).map Prod.fst = pre.map Prod.fst ++ [b.1] by simp]
    cases nmOK b.1 with
    | false => rfl
    | true =>
      cases tokB2 b.2 with
      | false => rfl
      | true => cases (pre.map Prod.fst).any (fun x => decide (b.1 = x)) <;> rfl
theorem vf_s (bs : List Bd) (hb : bs.length ≤ 1048576) (n t : ByteArray) (l : Bool) (K : List AVal) : ∀ (ks pre : List ByteArray), (pre ++ ks).length ≤ 1048577 →
    Ls_Fill_1 (bs.map avB) (pre.length : Int) n t l K ByteArray.empty ByteArray.empty false [] ((pre ++ ks).map AVal.str) = some (bif ks.all (fun x => (lkB bs x).isSome) then .inr (bs.map avB, n, t, l, K, ByteArray.empty, ByteArray.empty, false, []) else .inl (8, ByteArray.empty, ByteArray.empty, false, []))
  | [], pre, hl => by
    refine ls_Fill_1 _ _ _ _ _ _ _ _ _ _ _ ?_
    simp
  | k :: ks, pre, hl => by
    have hm := mid_len pre ks k
    have e := vf_s bs hb n t l K ks (pre ++ [k]) (by simpa using hl)
    simp only [List.append_assoc, List.cons_append, List.nil_append, el1] at e
    obtain ⟨r, er, hr⟩ := fd_s bs k hb
    have hd : decide (r < 0) = !(lkB bs k).isSome := by
      rcases hr with ⟨q, x, s, hx, h1, h2, rfl⟩ | ⟨h1, rfl⟩
      · rw [hx, lkB_hit h1 h2]
        have : ¬ ((q.length : Int) < 0) := by omega
        rw [decide_eq_false this]; rfl
      · rw [lkB_no h1]; rfl
    have p1 : ∀ s : ByteArray, CT.shape .str (.str s) = true := fun _ => rfl
    have p2 : ∀ s : ByteArray, (AVal.str s).toStr = s := fun _ => rfl
    refine ls_Fill_1 _ _ _ _ _ _ _ _ _ _ _ ?_
    simp only [List.length_map, Int.toNat_natCast, map_mid, dlt_true hm, blt_true hm, d0_true, Bool.and_self, cond_true, p1, p2, er, Option.bind_some, hd, wrap_succ hm (by omega), e, List.all_cons]
    cases (lkB bs k).isSome <;> rfl
def fillV (p : Tr) (bs : List Bd) : Tr × Int :=
  bif tokB2 p && vok p then (bif bdsF [] bs then (match fillO bs p with | some u => bif tokB2 u then (u, 0) else (zT, 3) | none => (zT, 8)) else (zT, 1)) else (zT, 1)
theorem lkb_sz {p : Tr} {bs : List Bd} (hs : sz p ≤ 1048576) (hb : ∀ b ∈ bs, sz b.2 ≤ 1048576) {u : Tr} (hu : fillO bs p = some u) : sz u ≤ 9000000000000 := by
  have := fillO_sz bs hb p u hu
  have := cnt_sz p
  omega
theorem fill_i (p : Tr) (bs : List Bd) (hs : sz p ≤ 1048576) (hl : bs.length ≤ 1048576) (hb : ∀ b ∈ bs, sz b.2 ≤ 1048576) :
    Fi_Fill p.name p.text p.leaf (avs p.kids) (bs.map avB) = some ((fillV p bs).1.name, (fillV p bs).1.text, (fillV p bs).1.leaf, ows (fillV p bs).1.kids, (fillV p bs).2) := by
  refine ui_Fill _ _ _ _ _ ?_
  unfold fillV
  simp only [pat_i p hs, Option.bind_some]
  cases tokB2 p && vok p with
  | false => simp only [Bool.not_false, cond_true, cond_false, zT, Tr.name, Tr.text, Tr.leaf, Tr.kids, ows]
  | true =>
    have e := bf_i p.name p.text p.leaf (avs p.kids) bs [] (by simpa using hl) hb
    simp only [List.nil_append, List.length_nil, Int.natCast_zero, List.map_nil] at e
    have e0 : dS (ones []) = [] := rfl
    rw [e0] at e
    simp only [Bool.not_true, cond_false, cond_true, List.length_map, e]
    cases bdsF [] bs with
    | false => simp only [cond_false, Option.bind_some, Sum.elim_inl, zT, Tr.name, Tr.text, Tr.leaf, Tr.kids, ows]
    | true =>
      simp only [cond_true, Option.bind_some, Sum.elim_inr, fl_i bs hl p hs]
      cases hf : fillO bs p with
      | none => simp only [optT, Bool.not_false, cond_true, zT, Tr.name, Tr.text, Tr.leaf, Tr.kids, ows]
      | some u =>
        simp only [optT, Bool.not_true, cond_false, s32g u (lkb_sz hs hb hf), Option.bind_some]
        cases ht : tokB2 u with
        | false => simp only [Bool.not_false, cond_true, cond_false, zT, Tr.name, Tr.text, Tr.leaf, Tr.kids, ows]
        | true => simp only [Bool.not_true, cond_true, cond_false, s96 u (tok_sz ht), Option.bind_some]
theorem fill_s (p : Tr) (bs : List Bd) (hs : sz p ≤ 1048576) (hl : bs.length ≤ 1048576) (hb : ∀ b ∈ bs, sz b.2 ≤ 1048576) :
    Fs_Fill p.name p.text p.leaf (avs p.kids) (bs.map avB) = some ((fillV p bs).1.name, (fillV p bs).1.text, (fillV p bs).1.leaf, avs (fillV p bs).1.kids, (fillV p bs).2) := by
  refine us_Fill _ _ _ _ _ ?_
  unfold fillV
  simp only [pat_s p hs, Option.bind_some]
  cases g : tokB2 p && vok p with
  | false => simp only [Bool.not_false, cond_true, cond_false, zT, Tr.name, Tr.text, Tr.leaf, Tr.kids, avs]
  | true =>
    have gv : vok p = true := by simp only [Bool.and_eq_true] at g; exact g.2
    have e := bf_s p.name p.text p.leaf (avs p.kids) bs [] (by simpa using hl) hb
    simp only [List.nil_append, List.length_nil, Int.natCast_zero, List.map_nil] at e
    simp only [Bool.not_true, cond_false, cond_true, e]
    cases bdsF [] bs with
    | false => simp only [cond_false, Option.bind_some, Sum.elim_inl, zT, Tr.name, Tr.text, Tr.leaf, Tr.kids, avs, asRoL]
    | true =>
      have hc := cnt_sz p
      have ev := vs_s p [] hs (by simp; omega)
      simp only [List.map_nil] at ev
      have hvl := vL_len p []
      have ef := vf_s bs hl p.name p.text p.leaf (avs p.kids) (vL p []).1 [] (by simp at hvl ⊢; omega)
      simp only [List.nil_append, List.length_nil, Int.natCast_zero] at ef
      have ha : (vL p []).1.all (fun x => (lkB bs x).isSome) = (fillO bs p).isSome := by
        rw [Bool.eq_iff_iff, List.all_eq_true, fillO_iff]
        have hm := vL_mem p [] gv
        constructor
        · intro h x hx; exact h x ((hm x).2 (.inr hx))
        · intro h x hx; exact h x (((hm x).1 hx).elim (fun q => by simp at q) id)
      simp only [cond_true, Option.bind_some, Sum.elim_inr, ev, ef, ha]
      cases hf : fillO bs p with
      | none => simp only [Option.isSome_none, cond_false, Sum.elim_inl, zT, Tr.name, Tr.text, Tr.leaf, Tr.kids, avs, asRoL]
      | some u =>
        simp only [Option.isSome_some, cond_true, Option.bind_some, Sum.elim_inr, fl_s bs hl p hs u hf, s30g u (lkb_sz hs hb hf)]
        cases ht : tokB2 u with
        | false => simp only [Bool.not_false, cond_true, cond_false, zT, Tr.name, Tr.text, Tr.leaf, Tr.kids, avs]
        | true => simp only [Bool.not_true, cond_true, cond_false, s93 u (tok_sz ht), Option.bind_some]
theorem fillV_sz (p : Tr) (bs : List Bd) : sz (fillV p bs).1 ≤ 1048576 := by
  have z : sz zT ≤ 1048576 := by decide
  unfold fillV
  cases tokB2 p && vok p with
  | false => exact z
  | true =>
    cases bdsF [] bs with
    | false => exact z
    | true =>
      cases fillO bs p with
      | none => exact z
      | some u =>
        cases ht : tokB2 u with
        | false => simp only [cond_true, ht, cond_false]; exact z
        | true => simp only [cond_true, ht]; exact tok_sz ht
theorem lawFl (p : Tr) (bs : List Bd) (hw : wf p) (hl : bs.length ≤ maxLen) (hb : ∀ x ∈ bs, wfB x) : Fl_FnExactFill p.name p.text p.leaf (avs p.kids) (bs.map avB) = some true := by
  refine ul_FnExactFill _ _ _ _ _ ?_
  simp only [s29 p 1048576 hw (by omega) (by omega), Option.bind_some]
  by_cases g : szR 1048576 (sz p) < 0
  · simp only [g, decide_true, cond_true]
  have gl := szR_le _ _ g
  have ha : sz p ≤ 1048576 := by have := szR_nn g; omega
  simp only [g, decide_false, cond_false, tzBS bs _ hl hb gl.1 gl.2, Option.bind_some]
  by_cases g' : szR (szR 1048576 (sz p)) (bs.length + szsB bs) < 0
  · simp only [g', decide_true, cond_true]
  have hs : sz p + (bs.length + szsB bs) ≤ 1048576 := by
    rw [szR_step g] at g'
    have := szR_nn g'; omega
  have hbs : bs.length + szsB bs ≤ 1048576 := by omega
  have hb2 : ∀ b ∈ bs, sz b.2 ≤ 1048576 := fun b h => by have := szsB_mem h; unfold szB at this; omega
  have hv := fillV_sz p bs
  have c1 := kids_cnt p ha
  have c2 := kids_cnt _ hv
  obtain ⟨l2, em⟩ := bmkS bs (1 + 3 * cnts p.kids) hbs (by omega) (by omega)
  have q1 : ¬ ((1 : Int) + 3 * (cnts p.kids : Int) + (nbs bs : Int) < 0) := by omega
  have q2 : ¬ ((1 : Int) + 3 * (cnts (fillV p bs).1.kids : Int) < 0) := by omega
  simp only [g', decide_false, cond_false, s31 p ha, toBS bs hbs, asRoL_ows, asRoL_owB, fill_s p bs ha (by omega) hb2, fill_i p bs ha (by omega) hb2, noRo_ow, Bool.and_self, cond_true, s33 p ha, s33 _ hv, Option.bind_some, Bool.not_true, decide_true, eqBS bs hbs, s52 p ha 1 (by omega) (by omega), em, q1, s52 _ hv 1 (by omega) (by omega), s53 _ hv 1 (by omega) (by omega), q2]
theorem lawFill : ∀ xs, FitsL ctx [ty_laws_Tree, ty_S_laws_Bind] xs → ∃ k, vcall ctx k n_l_FnExactFill xs [] = some ([.bool true], []) := by
  intro xs h
  obtain ⟨x, r, rfl, h1, h⟩ := h.cons'
  obtain ⟨y, r, rfl, h2, h⟩ := h.cons'
  obtain rfl := h.nil'
  obtain ⟨t, rfl, hw⟩ := fit_tree _ x (Nat.lt_succ_self _) h1
  obtain ⟨x0, rfl, l0, q0⟩ := h2.slice' (sz := 5) (e := ty_laws_Bind) (by kernel_rfl)
  obtain ⟨bs, rfl, hb⟩ := fitBS q0
  rw [List.length_map] at l0
  obtain ⟨n, x, l, ks⟩ := t
  exact law_of (S := sgl_FnExactFill) (a := (n, x, l, avs ks, bs.map avB)) (lawFl (.mk n x l ks) bs hw l0 hb) (by simp only [av]; rfl) rfl
end Go.Proofs.Ytfniojpjlachoaa
