/- What variables stand for, as plain data, and what the helpers of the laws do to it; where it is not too large. -/
import Derived.Test.YtfniojpjlachoaaTm
import Derived.Test.YtfniojpjlachoaaTc
namespace Go.Proofs.Ytfniojpjlachoaa
open Go.VK AVal
abbrev Bd := ByteArray × Tr
def avB (x : Bd) : AVal := .agg [.str x.1, .str x.2.name, .str x.2.text, .bool x.2.leaf, .ro false 4 (Tr.avs x.2.kids)]
def owB (x : Bd) : AVal := .agg [.str x.1, .str x.2.name, .str x.2.text, .bool x.2.leaf, .own 4 (Tr.ows x.2.kids)]
def szB (x : Bd) : Nat := x.1.size + Tr.sz x.2
def szsB : List Bd → Nat | [] => 0 | x :: r => szB x + szsB r
def wfB (x : Bd) : Prop := x.1.size ≤ maxLen ∧ Tr.wf x.2
theorem szsB_mem : ∀ {xs : List Bd} {x : Bd}, x ∈ xs → szB x ≤ szsB xs
  | [], x, h => by simp at h
  | y :: r, x, h => by
    simp only [List.mem_cons] at h
    simp only [szsB]
    rcases h with rfl | h
    · omega
    · have := szsB_mem h; omega
theorem asRo_owB (x : Bd) : asRo (owB x) = avB x := by simp only [owB, avB, asRo, asRoL, Tr.asRoL_ows]
theorem asRoL_owB (xs : List Bd) : asRoL (xs.map owB) = xs.map avB := by
  induction xs with
  | nil => simp [asRoL]
  | cons x xs ih => simp only [List.map_cons, asRoL, asRo_owB, ih]
theorem b_sh (x : Bd) : shapes [.str, .str, .str, .bool, .slice 4] (((avB x).cells.drop 0).take 5) = true := rfl
theorem b_sh1 (x : Bd) : shapes [.str, .str, .bool, .slice 4] (((avB x).cells.drop 1).take 4) = true := rfl
theorem b_0 (x : Bd) : ((avB x).cell 0).toStr = x.1 := rfl
theorem b_p0 (x : Bd) : CT.shape .str ((avB x).cell 0) = true := rfl
theorem b_1 (x : Bd) : ((avB x).cell 1).toStr = x.2.name := rfl
theorem b_2 (x : Bd) : ((avB x).cell 2).toStr = x.2.text := rfl
theorem b_3 (x : Bd) : ((avB x).cell 3).toBool = x.2.leaf := rfl
theorem b_4 (x : Bd) : ((avB x).cell 4).elems = Tr.avs x.2.kids := rfl
theorem el1 {α : Type} (pre : List α) (x : α) : (pre ++ [x]).length = pre.length + 1 := by simp
theorem tzB (x : Bd) (l : Int) (hw : wfB x) (h0 : 0 ≤ l) (h1 : l ≤ 1048576) : Fl_szBind x.1 x.2.name x.2.text x.2.leaf (Tr.avs x.2.kids) l = some (szR l (szB x)) := by
  obtain ⟨w1, w2⟩ := hw
  unfold maxLen at w1
  refine ul_szBind _ _ _ _ _ _ ?_
  have e1 : IntKind.wrap .i64 (l - (x.1.size : Int)) = l - (x.1.size : Int) := wrap64 (by omega) (by omega)
  simp only [e1, szB]
  by_cases g1 : l - (x.1.size : Int) < 0
  · have : l < ((x.1.size + Tr.sz x.2 : Nat) : Int) := by omega
    simp only [g1, decide_true, cond_true, szR, this, if_true]
  have es := s29 x.2 (l - (x.1.size : Int)) w2 (by omega) (by omega)
  simp only [g1, decide_false, cond_false, es, Option.bind_some, szR]
  by_cases g2 : l - (x.1.size : Int) < ((Tr.sz x.2 : Nat) : Int)
  · have : l < ((x.1.size + Tr.sz x.2 : Nat) : Int) := by omega
    simp only [g2, this, if_true]; rfl
  · have h2 : ¬ l < ((x.1.size + Tr.sz x.2 : Nat) : Int) := by omega
    have h3 : ¬ (l - (x.1.size : Int) - ((Tr.sz x.2 : Nat) : Int) < 0) := by omega
    simp only [g2, h2, h3, if_false, decide_false, cond_false, Option.some.injEq]
    omega
theorem tzB_0 : ∀ (pre ks : List Bd) (l : Int), (pre ++ ks).length ≤ 1048576 → (∀ x ∈ ks, wfB x) → 0 ≤ l → l ≤ 1048576 → Ll_szBindS_0 ((pre ++ ks).map avB) l (pre.length : Int) = some (if l < (szsB ks : Int) then .inl (-1) else .inr (l - (szsB ks : Int)))
  | pre, [], l, hl, hw, h0, h1 => by
    refine ll_szBindS_0 _ _ _ ?_
    have : ¬ l < 0 := by omega
    simp [szsB, this]
  | pre, k :: ks, l, hl, hw, h0, h1 => by
    have hm := mid_len pre ks k
    refine ll_szBindS_0 _ _ _ ?_
    simp only [List.length_map, Int.toNat_natCast, map_mid, b_sh, b_0, b_1, b_2, b_3, b_4, dlt_true hm, d0_true, Bool.and_self, tzB k l (hw k (by simp)) h0 h1, wrap_succ hm (by omega), cond_true, Option.bind_some, szR, szsB]
    by_cases g : l < (szB k : Int)
    · have : l < ((szB k + szsB ks : Nat) : Int) := by omega
      simp only [g, this, if_true]; rfl
    · have ih := tzB_0 (pre ++ [k]) ks (l - (szB k : Int)) (by simpa using hl) (fun x hx => hw x (by simp [hx])) (by omega) (by omega)
      have h3 : ¬ (l - (szB k : Int) < 0) := by omega
      simp only [List.append_assoc, List.cons_append, List.nil_append, el1] at ih
      simp only [g, if_false, h3, decide_false, cond_false, ih]
      by_cases g2 : l - (szB k : Int) < (szsB ks : Int)
      · have : l < ((szB k + szsB ks : Nat) : Int) := by omega
        simp only [g2, this, if_true]
      · have : ¬ l < ((szB k + szsB ks : Nat) : Int) := by omega
        simp only [g2, this, if_false, Option.some.injEq, Sum.inr.injEq]
        omega
theorem tzBS (ks : List Bd) (l : Int) (hl : ks.length ≤ maxLen) (hw : ∀ x ∈ ks, wfB x) (h0 : 0 ≤ l) (h1 : l ≤ 1048576) : Fl_szBindS (ks.map avB) l = some (szR l (ks.length + szsB ks)) := by
  unfold maxLen at hl
  refine ul_szBindS _ _ ?_
  have e1 : IntKind.wrap .i64 (l - (ks.length : Int)) = l - (ks.length : Int) := wrap64 (by omega) (by omega)
  simp only [List.length_map, e1]
  by_cases g1 : l - (ks.length : Int) < 0
  · have : l < ((ks.length + szsB ks : Nat) : Int) := by omega
    simp only [szR, g1, this, decide_true, cond_true, if_true]
  have := tzB_0 [] ks (l - (ks.length : Int)) (by simpa using (by omega : ks.length ≤ 1048576)) hw (by omega) (by omega)
  simp only [List.nil_append, List.length_nil, Int.natCast_zero] at this
  rw [this]
  simp only [g1, decide_false, cond_false, szR]
  by_cases g2 : l - (ks.length : Int) < (szsB ks : Int)
  · have : l < ((ks.length + szsB ks : Nat) : Int) := by omega
    simp only [g2, this, if_true]; rfl
  · have : ¬ l < ((ks.length + szsB ks : Nat) : Int) := by omega
    simp only [g2, this, if_false, Option.bind_some, Sum.elim_inr, Option.some.injEq]
    omega
theorem toB (x : Bd) (h : szB x ≤ 1048576) : Fl_toBind x.1 x.2.name x.2.text x.2.leaf (Tr.avs x.2.kids) = some (x.1, x.2.name, x.2.text, x.2.leaf, Tr.ows x.2.kids) := by
  unfold szB at h
  refine ul_toBind _ _ _ _ _ ?_
  simp only [s31 x.2 (by omega), Option.bind_some]
def zB : AVal := .agg [.str ByteArray.empty, .str ByteArray.empty, .str ByteArray.empty, .bool false, .own 4 []]
theorem bfill_get (pre : List Bd) (z : AVal) (n : Nat) : (pre.map owB ++ List.replicate (n + 1) z).getD pre.length .und = z := by
  rw [List.getD_eq_getElem?_getD, List.getElem?_append_right (by simp), List.length_map, Nat.sub_self]; rfl
theorem bfill_set (pre : List Bd) (k : Bd) (z : AVal) (n : Nat) : (pre.map owB ++ List.replicate (n + 1) z).set pre.length (owB k) = (pre ++ [k]).map owB ++ List.replicate n z := by
  rw [List.set_append_right _ _ (by simp), List.length_map, Nat.sub_self, List.replicate_succ]
  simp
theorem bfill_len (pre : List Bd) (z : AVal) (n : Nat) : (pre.map owB ++ List.replicate n z).length = pre.length + n := by simp
theorem toB_0 : ∀ (pre ks : List Bd), (pre ++ ks).length ≤ 1048576 → szsB ks ≤ 1048576 → Ll_toBindS_0 ((pre ++ ks).map avB) (pre.length : Int) (pre.map owB ++ List.replicate ks.length zB) = some ((pre ++ ks).map owB)
  | pre, [], hl, h => by
    refine ll_toBindS_0 _ _ _ ?_
    simp
  | pre, k :: ks, hl, h => by
    simp only [szsB] at h
    have hm := mid_len pre ks k
    have ih := toB_0 (pre ++ [k]) ks (by simpa using hl) (by omega)
    simp only [List.append_assoc, List.cons_append, List.nil_append, el1] at ih
    refine ll_toBindS_0 _ _ _ ?_
    have hb : Nat.blt pre.length (pre.length + (ks.length + 1)) = true := by simp
    have e : (AVal.agg (setMany zB.cells 0 [.str k.1, .str k.2.name, .str k.2.text, .bool k.2.leaf, .own 4 (Tr.ows k.2.kids)])) = owB k := rfl
    have g1 : aggQ zB = true := rfl
    have g2 : Nat.ble 5 zB.cells.length = true := rfl
    have hd : decide ((pre.length : Int) < ((pre.length + (ks.length + 1) : Nat) : Int)) = true := by simp; omega
    simp only [List.length_map, Int.toNat_natCast, map_mid, b_sh, b_0, b_1, b_2, b_3, b_4, dlt_true hm, d0_true, Bool.and_self, toB k (by omega), wrap_succ hm (by omega), cond_true, Option.bind_some, List.length_cons, bfill_get, bfill_len, hb, hd, e, bfill_set, g1, g2, bnd_eq, ih]
theorem toBS (ks : List Bd) (h : ks.length + szsB ks ≤ 1048576) : Fl_toBindS (ks.map avB) = some (ks.map owB) := by
  refine ul_toBindS _ ?_
  have := toB_0 [] ks (by simp; omega) (by omega)
  simp only [List.nil_append, List.length_nil, Int.natCast_zero] at this
  have hc : capB ks.length 80 = true := capB_le (by omega)
  have h0 : (0 : Int) ≤ (ks.length : Int) := by omega
  have e0 : ([] : List Bd).map owB ++ List.replicate ks.length zB = List.replicate ks.length (.agg [.str ByteArray.empty, .str ByteArray.empty, .str ByteArray.empty, .bool false, .own 4 []]) := by simp [zB]
  rw [e0] at this
  simp only [List.length_map, Int.toNat_natCast, h0, hc, Int.le_refl, decide_true, Bool.and_self, cond_true, bnd_eq, this, Option.bind_some]
theorem eqB (x : Bd) (h : szB x ≤ 1048576) : Fl_eqBind x.1 x.2.name x.2.text x.2.leaf (Tr.avs x.2.kids) x.1 x.2.name x.2.text x.2.leaf (Tr.avs x.2.kids) = some true := by
  unfold szB at h
  refine ul_eqBind _ _ _ _ _ _ _ _ _ _ ?_
  simp only [decide_true, Bool.not_true, cond_false, s33 x.2 (by omega), Option.bind_some]
theorem eqB_0 : ∀ (pre ks : List Bd), (pre ++ ks).length ≤ 1048576 → szsB ks ≤ 1048576 → Ll_eqBindS_0 ((pre ++ ks).map avB) ((pre ++ ks).map avB) (pre.length : Int) = some (.inr ())
  | pre, [], hl, h => by
    refine ll_eqBindS_0 _ _ _ ?_
    simp
  | pre, k :: ks, hl, h => by
    simp only [szsB] at h
    have hm := mid_len pre ks k
    have ih := eqB_0 (pre ++ [k]) ks (by simpa using hl) (by omega)
    simp only [List.append_assoc, List.cons_append, List.nil_append, el1] at ih
    refine ll_eqBindS_0 _ _ _ ?_
    simp only [List.length_map, Int.toNat_natCast, map_mid, b_sh, b_0, b_1, b_2, b_3, b_4, dlt_true hm, d0_true, Bool.and_self, eqB k (by omega), wrap_succ hm (by omega), cond_true, cond_false, Bool.not_true, Option.bind_some, ih]
theorem eqBS (ks : List Bd) (h : ks.length + szsB ks ≤ 1048576) : Fl_eqBindS (ks.map avB) (ks.map avB) = some true := by
  refine ul_eqBindS _ _ ?_
  have := eqB_0 [] ks (by simp; omega) (by omega)
  simp only [List.nil_append, List.length_nil, Int.natCast_zero] at this
  simp [this]
/-! Marks -/
def bv5 (a b c d e : AVal) : AVal := .agg [a, b, c, d, e]
def nb (x : Bd) : Nat := 4 + 3 * cnts x.2.kids
def nbs : List Bd → Nat | [] => 0 | k :: ks => nb k + nbs ks
section
variable (a b c d e x : AVal)
theorem bv_ag : aggQ (bv5 a b c d e) = true := rfl
theorem bv_l1 : Nat.ble 1 (bv5 a b c d e).cells.length = true := rfl
theorem bv_l2 : Nat.ble 2 (bv5 a b c d e).cells.length = true := rfl
theorem bv_l3 : Nat.ble 3 (bv5 a b c d e).cells.length = true := rfl
theorem bv_l4 : Nat.ble 4 (bv5 a b c d e).cells.length = true := rfl
theorem bv_s0 : AVal.agg (setMany (bv5 a b c d e).cells 0 [x]) = bv5 x b c d e := rfl
theorem bv_s1 : AVal.agg (setMany (bv5 a b c d e).cells 1 [x]) = bv5 a x c d e := rfl
theorem bv_s2 : AVal.agg (setMany (bv5 a b c d e).cells 2 [x]) = bv5 a b x d e := rfl
theorem bv_s3 : AVal.agg (setMany (bv5 a b c d e).cells 3 [x]) = bv5 a b c x e := rfl
theorem bv_g4 : (bv5 a b c d e).okg [4] = true := by simp [bv5, AVal.okg]
theorem bv_p4 : (bv5 a b c d e).okp [4] = true := by simp [bv5, AVal.okp]
theorem bv_e4 : (bv5 a b c d e).get [4] = e := by simp [bv5, AVal.get]
theorem bv_u4 : (bv5 a b c d e).put [4] x = bv5 a b c d x := by simp [bv5, AVal.put]
end
theorem b_sl (z : Nat) (xs : List AVal) : CT.shape (.slice z) (.own z xs) = true := by simp [CT.shape]
theorem b_so (z : Nat) (xs : List AVal) : CT.shOwn (.slice z) (.own z xs) = true := by simp [CT.shOwn]
theorem b_io (z : Nat) (xs : List AVal) : lend.isOwn (.own z xs) = true := rfl
theorem b_eo (z : Nat) (xs : List AVal) : (AVal.own z xs).elems = xs := rfl
theorem b_au : aggQ .und = false := rfl
theorem bmk_0 : ∀ (ks : List Bd) (pre : List AVal) (k : Int), pre.length + ks.length ≤ 1048576 → szsB ks ≤ 1048576 → 0 ≤ k → k + nbs ks ≤ 10000000000 → ∃ l, Ll_markBindS_0 k (pre.length : Int) (pre ++ ks.map owB) = some (k + nbs ks, l)
  | [], pre, k, hl, hs, h0, h1 => ⟨pre, ll_markBindS_0 _ _ _ (by simp [nbs])⟩
  | x :: ks, pre, k, hl, hs, h0, h1 => by
    simp only [szsB, szB, List.length_cons] at hs hl
    have hn : (nb x : Int) = 4 + 3 * cnts x.2.kids := by simp only [nb]; omega
    simp only [nbs, Int.natCast_add, hn] at h1
    have ht : x.2.kids.length + Tr.szs x.2.kids ≤ 1048576 := by
      have : Tr.sz x.2 ≤ 1048576 := by omega
      revert this
      generalize x.2 = t
      intro this
      cases t; simp only [Tr.sz] at this; simp only [Tr.kids]; omega
    have i1 := s97 x.2.kids (k + 4) ht (by omega) (by omega)
    obtain ⟨l3, i3⟩ := bmk_0 ks (pre ++ [bv5 (.str (mt k)) (.str (mt (k + 1))) (.str (mt (k + 2))) (.bool (decide (Int.tmod (k + 3) 3 = 0))) (.own 4 (Tr.ows (mkTs (k + 4) x.2.kids)))]) (k + 4 + 3 * cnts x.2.kids) (by simp; omega) (by omega) (by omega) (by omega)
    simp only [List.append_assoc, List.cons_append, List.nil_append, el1] at i3
    have ew1 : IntKind.wrap .i64 (k + 1) = k + 1 := wrap64 (by omega) (by omega)
    have ew2 : IntKind.wrap .i64 (k + 1 + 1) = k + 2 := by rw [wrap64 (by omega) (by omega)]; omega
    have ew3 : IntKind.wrap .i64 (k + 2 + 1) = k + 3 := by rw [wrap64 (by omega) (by omega)]; omega
    have ew4 : IntKind.wrap .i64 (k + 3 + 1) = k + 4 := by rw [wrap64 (by omega) (by omega)]; omega
    have hm : ∀ y : AVal, pre.length < (pre ++ y :: ks.map owB).length := fun y => mid_len pre (ks.map owB) y
    have hlen : ∀ x : AVal, (pre ++ x :: ks.map owB).length ≤ 9000000000000000000 := fun x => by simp; omega
    have e0 : (x :: ks).map owB = bv5 (.str x.1) (.str x.2.name) (.str x.2.text) (.bool x.2.leaf) (.own 4 (Tr.ows x.2.kids)) :: ks.map owB := rfl
    refine ⟨l3, ll_markBindS_0 _ _ _ ?_⟩
    simp only [e0, Int.toNat_natCast, dlt_true (hm _), d0_true, Bool.and_self, Bool.and_true, cond_true, s122 k (by omega), s122 (k + 1) (by omega), s122 (k + 2) (by omega), Option.bind_some, mid_get, mid_set, blt_true (hm _), bnd_eq, ew1, ew2, ew3, ew4, bv_ag, bv_l1, bv_l2, bv_l3, bv_l4, bv_s0, bv_s1, bv_s2, bv_s3, bv_g4, bv_p4, bv_e4, bv_u4, b_sl, b_so, b_io, b_eo, b_au, Bool.not_false, i1, wrap_succ (hm (bv5 (.str x.1) (.str x.2.name) (.str x.2.text) (.bool x.2.leaf) (.own 4 (Tr.ows x.2.kids)))) (hlen _), i3, nbs, Option.some.injEq, Prod.mk.injEq, and_true]
    omega
theorem nbs_sz : ∀ ks : List Bd, nbs ks ≤ 4 * ks.length + 3 * szsB ks
  | [] => by simp [nbs]
  | k :: ks => by
    have := nbs_sz ks
    have h2 : cnts k.2.kids ≤ Tr.sz k.2 := by
      generalize k.2 = t
      cases t with
      | mk n x l qs => have := cnts_sz qs; simp only [Tr.sz, Tr.kids]; omega
    simp only [nbs, nb, szsB, szB, List.length_cons]
    omega
theorem bmkS (ks : List Bd) (k : Int) (hs : ks.length + szsB ks ≤ 1048576) (h0 : 0 ≤ k) (h1 : k ≤ 1000000000) : ∃ l, Fl_markBindS k (ks.map owB) = some (k + nbs ks, l) := by
  have := nbs_sz ks
  obtain ⟨l, e⟩ := bmk_0 ks [] k (by simp; omega) (by omega) h0 (by omega)
  simp only [List.nil_append, List.length_nil, Int.natCast_zero] at e
  exact ⟨l, ul_markBindS _ _ (by simp only [e, Option.bind_some])⟩
theorem fitB {y : AVal} (h : Fits ctx ty_laws_Bind y) : ∃ x : Bd, y = avB x ∧ wfB x := by
  obtain ⟨fs, rfl, g⟩ := h.struct' (us := [ty_string, ty_laws_Tree]) (by kernel_rfl)
  obtain ⟨a, r, rfl, g1, g⟩ := g.cons'
  obtain ⟨b, r, rfl, g2, g⟩ := g.cons'
  obtain rfl := g.nil'
  obtain ⟨n, rfl, w1⟩ := g1.str' (by kernel_rfl)
  obtain ⟨t, rfl, w2⟩ := fit_tree _ b (Nat.lt_succ_self _) g2
  obtain ⟨nm, tx, lf, qs⟩ := t
  exact ⟨(n, .mk nm tx lf qs), by simp only [Tr.av]; rfl, w1, w2⟩
theorem fitBS : ∀ {xs : List AVal}, (∀ y ∈ xs, Fits ctx ty_laws_Bind y) → ∃ ns : List Bd, xs = ns.map avB ∧ ∀ x ∈ ns, wfB x
  | [], _ => ⟨[], rfl, by simp⟩
  | y :: ys, h => by
    obtain ⟨x, rfl, hx⟩ := fitB (h y (by simp))
    obtain ⟨ns, rfl, hn⟩ := fitBS (xs := ys) fun z hz => h z (by simp [hz])
    exact ⟨x :: ns, rfl, fun z hz => by rcases List.mem_cons.1 hz with rfl | hz; exact hx; exact hn z hz⟩
end Go.Proofs.Ytfniojpjlachoaa
