/- Changes of trees as plain data, how values tell them, and what the helpers of the laws do to them; where they are not too large. -/
import Derived.Test.YtfniojpjlachoaaTm
import Derived.Test.YtfniojpjlachoaaTc
namespace Go.Proofs.Ytfniojpjlachoaa
open Go.VK AVal
inductive Dl where
  | mk (kind : Int) (tree : Tr) (kids : List Dl)
namespace Dl
def kind : Dl → Int | mk k _ _ => k
def tree : Dl → Tr | mk _ t _ => t
def kids : Dl → List Dl | mk _ _ ks => ks
mutual
def av : Dl → AVal | mk k t ks => .agg [.int .i64 k, .str t.name, .str t.text, .bool t.leaf, .ro false 4 (Tr.avs t.kids), .ro false 6 (avs ks)]
def avs : List Dl → List AVal | [] => [] | k :: ks => av k :: avs ks
end
mutual
def ow : Dl → AVal | mk k t ks => .agg [.int .i64 k, .str t.name, .str t.text, .bool t.leaf, .own 4 (Tr.ows t.kids), .own 6 (ows ks)]
def ows : List Dl → List AVal | [] => [] | k :: ks => ow k :: ows ks
end
mutual
def sz : Dl → Nat | mk _ t ks => Tr.sz t + (ks.length + szs ks)
def szs : List Dl → Nat | [] => 0 | k :: ks => sz k + szs ks
end
mutual
def wf : Dl → Prop | mk _ t ks => Tr.wf t ∧ ks.length ≤ maxLen ∧ wfs ks
def wfs : List Dl → Prop | [] => True | k :: ks => wf k ∧ wfs ks
end
theorem avs_map : ∀ ks : List Dl, avs ks = ks.map av
  | [] => by simp only [avs, List.map_nil]
  | k :: ks => by simp only [avs, List.map_cons, avs_map ks]
theorem ows_map : ∀ ks : List Dl, ows ks = ks.map ow
  | [] => by simp only [ows, List.map_nil]
  | k :: ks => by simp only [ows, List.map_cons, ows_map ks]
mutual
theorem asRo_ow : ∀ t : Dl, asRo (ow t) = av t
  | mk k t ks => by simp only [ow, av, asRo, asRoL, asRoL_ows ks, Tr.asRoL_ows]
theorem asRoL_ows : ∀ ks : List Dl, asRoL (ows ks) = avs ks
  | [] => by simp only [ows, avs, asRoL]
  | k :: ks => by simp only [ows, avs, asRoL, asRo_ow k, asRoL_ows ks]
end
theorem av_shape (k : Dl) : shapes [.int .i64, .str, .str, .bool, .slice 4, .slice 6] (((av k).cells.drop 0).take 6) = true := by cases k; rfl
theorem av_0 (k : Dl) : ((av k).cell 0).toInt = k.kind := by cases k; rfl
theorem av_1 (k : Dl) : ((av k).cell 1).toStr = k.tree.name := by cases k; rfl
theorem av_2 (k : Dl) : ((av k).cell 2).toStr = k.tree.text := by cases k; rfl
theorem av_3 (k : Dl) : ((av k).cell 3).toBool = k.tree.leaf := by cases k; rfl
theorem av_4 (k : Dl) : ((av k).cell 4).elems = Tr.avs k.tree.kids := by cases k; rfl
theorem av_5 (k : Dl) : ((av k).cell 5).elems = avs k.kids := by cases k; rfl
theorem avs_len (ks : List Dl) : (avs ks).length = ks.length := by rw [avs_map, List.length_map]
theorem ows_len (ks : List Dl) : (ows ks).length = ks.length := by rw [ows_map, List.length_map]
theorem avs_get (pre suf : List Dl) (k : Dl) : (avs (pre ++ k :: suf)).getD pre.length .und = av k := by rw [avs_map]; simp
theorem ows_get (pre suf : List Dl) (k : Dl) : (ows (pre ++ k :: suf)).getD pre.length .und = ow k := by rw [ows_map]; simp
theorem lt (pre suf : List Dl) (k : Dl) : pre.length < (pre ++ k :: suf).length := by simp
end Dl
mutual
theorem dsz : ∀ (d : Dl) (l : Int), Dl.wf d → 0 ≤ l → l ≤ 1048576 → Fl_szDelta d.kind d.tree.name d.tree.text d.tree.leaf (Tr.avs d.tree.kids) (Dl.avs d.kids) l = some (szR l (Dl.sz d))
  | .mk k t ks, l, hw, h0, h1 => by
    simp only [Dl.wf] at hw
    obtain ⟨w1, w2, w3⟩ := hw
    refine ul_szDelta _ _ _ _ _ _ _ ?_
    simp only [Dl.tree, Dl.kids, s29 t l w1 h0 h1, Option.bind_some, Dl.sz]
    by_cases g1 : szR l (Tr.sz t) < 0
    · simp only [g1, decide_true, cond_true, szR_over g1 h0]
    obtain ⟨b1, b2⟩ := szR_le _ _ g1
    simp only [g1, decide_false, cond_false, dszs ks _ w2 w3 b1 (by omega), Option.bind_some, szR_step g1]
    by_cases g2 : szR l (Tr.sz t + (ks.length + Dl.szs ks)) < 0
    · rw [szR_m1 g2 h0]; rfl
    · simp only [g2, decide_false, cond_false]
theorem dszs : ∀ (ks : List Dl) (l : Int), ks.length ≤ maxLen → Dl.wfs ks → 0 ≤ l → l ≤ 1048576 → Fl_szDeltaS (Dl.avs ks) l = some (szR l (ks.length + Dl.szs ks))
  | ks, l, hl, hw, h0, h1 => by
    unfold maxLen at hl
    refine ul_szDeltaS _ _ ?_
    have e1 : IntKind.wrap .i64 (l - (ks.length : Int)) = l - (ks.length : Int) := wrap64 (by omega) (by omega)
    simp only [Dl.avs_len, e1]
    by_cases g1 : l - (ks.length : Int) < 0
    · have : l < ((ks.length + Dl.szs ks : Nat) : Int) := by omega
      simp only [szR, g1, this, decide_true, cond_true, if_true]
    have := dsz_0 [] ks (l - (ks.length : Int)) (by simpa using (by omega : ks.length ≤ 1048576)) hw (by omega) (by omega)
    simp only [List.nil_append, List.length_nil, Int.natCast_zero] at this
    rw [this]
    simp only [g1, decide_false, cond_false, szR]
    by_cases g2 : l - (ks.length : Int) < (Dl.szs ks : Int)
    · have : l < ((ks.length + Dl.szs ks : Nat) : Int) := by omega
      simp only [g2, this, if_true]; rfl
    · have : ¬ l < ((ks.length + Dl.szs ks : Nat) : Int) := by omega
      simp only [g2, this, if_false, Option.bind_some, Sum.elim_inr, Option.some.injEq]
      omega
theorem dsz_0 : ∀ (pre ks : List Dl) (l : Int), (pre ++ ks).length ≤ 1048576 → Dl.wfs ks → 0 ≤ l → l ≤ 1048576 → Ll_szDeltaS_0 (Dl.avs (pre ++ ks)) l (pre.length : Int) = some (if l < (Dl.szs ks : Int) then .inl (-1) else .inr (l - (Dl.szs ks : Int)))
  | pre, [], l, hl, hw, h0, h1 => by
    refine ll_szDeltaS_0 _ _ _ ?_
    have : ¬ l < 0 := by omega
    simp [Dl.avs_len, Dl.szs, this]
  | pre, k :: ks, l, hl, hw, h0, h1 => by
    simp only [Dl.wfs] at hw
    have hm := Dl.lt pre ks k
    refine ll_szDeltaS_0 _ _ _ ?_
    simp only [Int.toNat_natCast, Dl.avs_get, Dl.av_shape, Dl.av_0, Dl.av_1, Dl.av_2, Dl.av_3, Dl.av_4, Dl.av_5, Dl.avs_len (pre ++ k :: ks), dlt_true hm, d0_true, Bool.and_self, dsz k l hw.1 h0 h1, wrap_succ hm (by omega), cond_true, Option.bind_some, szR, Dl.szs]
    by_cases g : l < (Dl.sz k : Int)
    · have : l < ((Dl.sz k + Dl.szs ks : Nat) : Int) := by omega
      simp only [g, this, if_true]; rfl
    · have ih := dsz_0 (pre ++ [k]) ks (l - (Dl.sz k : Int)) (by simpa using hl) hw.2 (by omega) (by omega)
      have h3 : ¬ (l - (Dl.sz k : Int) < 0) := by omega
      simp only [List.append_assoc, List.cons_append, List.nil_append, show ∀ x : Dl, (pre ++ [x]).length = pre.length + 1 from fun x => by simp] at ih
      simp only [g, if_false, h3, decide_false, cond_false, ih]
      by_cases g2 : l - (Dl.sz k : Int) < (Dl.szs ks : Int)
      · have : l < ((Dl.sz k + Dl.szs ks : Nat) : Int) := by omega
        simp only [g2, this, if_true]
      · have : ¬ l < ((Dl.sz k + Dl.szs ks : Nat) : Int) := by omega
        simp only [g2, this, if_false, Option.some.injEq, Sum.inr.injEq]
        omega
end
def zDl : AVal := .agg [.int .i64 0, .str ByteArray.empty, .str ByteArray.empty, .bool false, .own 4 [], .own 6 []]
theorem dfill_get (pre : List Dl) (z : AVal) (n : Nat) : (Dl.ows pre ++ List.replicate (n + 1) z).getD pre.length .und = z := by
  rw [List.getD_eq_getElem?_getD, List.getElem?_append_right (by simp [Dl.ows_len]), Dl.ows_len, Nat.sub_self]; rfl
theorem dfill_set (pre : List Dl) (k : Dl) (z : AVal) (n : Nat) : (Dl.ows pre ++ List.replicate (n + 1) z).set pre.length (Dl.ow k) = Dl.ows (pre ++ [k]) ++ List.replicate n z := by
  rw [List.set_append_right _ _ (by simp [Dl.ows_len]), Dl.ows_len, Nat.sub_self, List.replicate_succ]
  simp [Dl.ows_map]
theorem dfill_len (pre : List Dl) (z : AVal) (n : Nat) : (Dl.ows pre ++ List.replicate n z).length = pre.length + n := by simp [Dl.ows_len]
mutual
theorem dto : ∀ d : Dl, Dl.sz d ≤ 1048576 → Fl_toDelta d.kind d.tree.name d.tree.text d.tree.leaf (Tr.avs d.tree.kids) (Dl.avs d.kids) = some (d.kind, d.tree.name, d.tree.text, d.tree.leaf, Tr.ows d.tree.kids, Dl.ows d.kids)
  | .mk k t ks, h => by
    simp only [Dl.sz] at h
    refine ul_toDelta _ _ _ _ _ _ ?_
    simp only [Dl.kind, Dl.tree, Dl.kids, s31 t (by omega), dtos ks (by omega), Option.bind_some]
theorem dtos : ∀ ks : List Dl, ks.length + Dl.szs ks ≤ 1048576 → Fl_toDeltaS (Dl.avs ks) = some (Dl.ows ks)
  | ks, h => by
    refine ul_toDeltaS _ ?_
    have := dto_0 [] ks (by simp; omega) (by omega)
    simp only [List.nil_append, List.length_nil, Int.natCast_zero] at this
    have hc : capB ks.length 96 = true := capB_le (by omega)
    have h0 : (0 : Int) ≤ (ks.length : Int) := by omega
    have e0 : Dl.ows [] ++ List.replicate ks.length zDl = List.replicate ks.length (.agg [.int .i64 0, .str ByteArray.empty, .str ByteArray.empty, .bool false, .own 4 [], .own 6 []]) := by simp [Dl.ows, zDl]
    rw [e0] at this
    simp only [Dl.avs_len, Int.toNat_natCast, h0, hc, Int.le_refl, decide_true, Bool.and_self, cond_true, bnd_eq, this, Option.bind_some]
theorem dto_0 : ∀ (pre ks : List Dl), (pre ++ ks).length ≤ 1048576 → Dl.szs ks ≤ 1048576 → Ll_toDeltaS_0 (Dl.avs (pre ++ ks)) (pre.length : Int) (Dl.ows pre ++ List.replicate ks.length zDl) = some (Dl.ows (pre ++ ks))
  | pre, [], hl, h => by
    refine ll_toDeltaS_0 _ _ _ ?_
    simp [Dl.avs_len]
  | pre, k :: ks, hl, h => by
    simp only [Dl.szs] at h
    have hm := Dl.lt pre ks k
    have ih := dto_0 (pre ++ [k]) ks (by simpa using hl) (by omega)
    simp only [List.append_assoc, List.cons_append, List.nil_append, show ∀ x : Dl, (pre ++ [x]).length = pre.length + 1 from fun x => by simp] at ih
    refine ll_toDeltaS_0 _ _ _ ?_
    have hb : Nat.blt pre.length (pre.length + (ks.length + 1)) = true := by simp
    have e : (AVal.agg (setMany zDl.cells 0 [.int .i64 k.kind, .str k.tree.name, .str k.tree.text, .bool k.tree.leaf, .own 4 (Tr.ows k.tree.kids), .own 6 (Dl.ows k.kids)])) = Dl.ow k := by cases k; rfl
    have g1 : aggQ zDl = true := rfl
    have g2 : Nat.ble 6 zDl.cells.length = true := rfl
    have hd : decide ((pre.length : Int) < ((pre.length + (ks.length + 1) : Nat) : Int)) = true := by simp; omega
    simp only [Int.toNat_natCast, Dl.avs_get, Dl.av_shape, Dl.av_0, Dl.av_1, Dl.av_2, Dl.av_3, Dl.av_4, Dl.av_5, Dl.avs_len (pre ++ k :: ks), dlt_true hm, d0_true, Bool.and_self, dto k (by omega), wrap_succ hm (by omega), cond_true, Option.bind_some, List.length_cons, dfill_get, dfill_len, hb, hd, e, dfill_set, g1, g2, bnd_eq, ih]
end
mutual
theorem deq : ∀ d : Dl, Dl.sz d ≤ 1048576 → Fl_eqDelta d.kind d.tree.name d.tree.text d.tree.leaf (Tr.avs d.tree.kids) (Dl.avs d.kids) d.kind d.tree.name d.tree.text d.tree.leaf (Tr.avs d.tree.kids) (Dl.avs d.kids) = some true
  | .mk k t ks, h => by
    simp only [Dl.sz] at h
    refine ul_eqDelta _ _ _ _ _ _ _ _ _ _ _ _ ?_
    simp only [Dl.tree, Dl.kids, decide_true, Bool.not_true, cond_false, s33 t (by omega), deqs ks (by omega), Option.bind_some]
theorem deqs : ∀ ks : List Dl, ks.length + Dl.szs ks ≤ 1048576 → Fl_eqDeltaS (Dl.avs ks) (Dl.avs ks) = some true
  | ks, h => by
    refine ul_eqDeltaS _ _ ?_
    have := deq_0 [] ks (by simp; omega) (by omega)
    simp only [List.nil_append, List.length_nil, Int.natCast_zero] at this
    simp [this]
theorem deq_0 : ∀ (pre ks : List Dl), (pre ++ ks).length ≤ 1048576 → Dl.szs ks ≤ 1048576 → Ll_eqDeltaS_0 (Dl.avs (pre ++ ks)) (Dl.avs (pre ++ ks)) (pre.length : Int) = some (.inr ())
  | pre, [], hl, h => by
    refine ll_eqDeltaS_0 _ _ _ ?_
    simp [Dl.avs_len]
  | pre, k :: ks, hl, h => by
    simp only [Dl.szs] at h
    have hm := Dl.lt pre ks k
    have ih := deq_0 (pre ++ [k]) ks (by simpa using hl) (by omega)
    simp only [List.append_assoc, List.cons_append, List.nil_append, show ∀ x : Dl, (pre ++ [x]).length = pre.length + 1 from fun x => by simp] at ih
    refine ll_eqDeltaS_0 _ _ _ ?_
    simp only [Int.toNat_natCast, Dl.avs_get, Dl.av_shape, Dl.av_0, Dl.av_1, Dl.av_2, Dl.av_3, Dl.av_4, Dl.av_5, Dl.avs_len (pre ++ k :: ks), dlt_true hm, d0_true, Bool.and_self, deq k (by omega), wrap_succ hm (by omega), cond_true, cond_false, Bool.not_true, Option.bind_some, ih]
end
/-! Marks -/
def dv (a b c d e f : AVal) : AVal := .agg [a, b, c, d, e, f]
mutual
def nd : Dl → Nat | .mk _ t ks => 4 + 3 * cnts t.kids + nds ks
def nds : List Dl → Nat | [] => 0 | k :: ks => nd k + nds ks
end
mutual
theorem nd_sz : ∀ d : Dl, nd d ≤ 4 + 3 * Dl.sz d + 4 * Dl.sz d
  | .mk k t ks => by
    cases t with
    | mk n x l qs =>
      have := nds_sz ks
      have := cnts_sz qs
      simp only [nd, Dl.sz, Tr.sz, Tr.kids]; omega
theorem nds_sz : ∀ ks : List Dl, nds ks ≤ 4 * ks.length + 7 * Dl.szs ks
  | [] => by simp [nds]
  | k :: ks => by
    have := nd_sz k
    have := nds_sz ks
    simp only [nds, Dl.szs, List.length_cons]; omega
end
section
variable (a b c d e f x : AVal)
theorem dv_ag : aggQ (dv a b c d e f) = true := rfl
theorem dv_l1 : Nat.ble 1 (dv a b c d e f).cells.length = true := rfl
theorem dv_l2 : Nat.ble 2 (dv a b c d e f).cells.length = true := rfl
theorem dv_l3 : Nat.ble 3 (dv a b c d e f).cells.length = true := rfl
theorem dv_l4 : Nat.ble 4 (dv a b c d e f).cells.length = true := rfl
theorem dv_s0 : AVal.agg (setMany (dv a b c d e f).cells 0 [x]) = dv x b c d e f := rfl
theorem dv_s1 : AVal.agg (setMany (dv a b c d e f).cells 1 [x]) = dv a x c d e f := rfl
theorem dv_s2 : AVal.agg (setMany (dv a b c d e f).cells 2 [x]) = dv a b x d e f := rfl
theorem dv_s3 : AVal.agg (setMany (dv a b c d e f).cells 3 [x]) = dv a b c x e f := rfl
theorem dv_g4 : (dv a b c d e f).okg [4] = true := by simp [dv, AVal.okg]
theorem dv_g5 : (dv a b c d e f).okg [5] = true := by simp [dv, AVal.okg]
theorem dv_p4 : (dv a b c d e f).okp [4] = true := by simp [dv, AVal.okp]
theorem dv_p5 : (dv a b c d e f).okp [5] = true := by simp [dv, AVal.okp]
theorem dv_e4 : (dv a b c d e f).get [4] = e := by simp [dv, AVal.get]
theorem dv_e5 : (dv a b c d e f).get [5] = f := by simp [dv, AVal.get]
theorem dv_u4 : (dv a b c d e f).put [4] x = dv a b c d x f := by simp [dv, AVal.put]
theorem dv_u5 : (dv a b c d e f).put [5] x = dv a b c d e x := by simp [dv, AVal.put]
end
theorem sl_own (z : Nat) (xs : List AVal) : CT.shape (.slice z) (.own z xs) = true := by simp [CT.shape]
theorem sh_own (z : Nat) (xs : List AVal) : CT.shOwn (.slice z) (.own z xs) = true := by simp [CT.shOwn]
theorem is_own (z : Nat) (xs : List AVal) : lend.isOwn (.own z xs) = true := rfl
theorem el_own (z : Nat) (xs : List AVal) : (AVal.own z xs).elems = xs := rfl
theorem ag_und : aggQ .und = false := rfl
theorem nd_mk (k : Int) (t : Tr) (ks : List Dl) : (nd (.mk k t ks) : Int) = 4 + 3 * cnts t.kids + nds ks := by simp only [nd]; omega
mutual
theorem dmk : ∀ (ks : List Dl) (k : Int), ks.length + Dl.szs ks ≤ 1048576 → 0 ≤ k → k + nds ks ≤ 10000000000 → ∃ l, Fl_markDeltaS k (Dl.ows ks) = some (k + nds ks, l)
  | ks, k, hs, h0, h1 => by
    obtain ⟨l, e⟩ := dmk_0 [] ks k (by simp; omega) (by omega) h0 h1
    simp only [List.nil_append, List.length_nil, Int.natCast_zero] at e
    exact ⟨l, ul_markDeltaS _ _ (by simp only [e, Option.bind_some])⟩
theorem dmk_0 : ∀ (pre : List AVal) (ks : List Dl) (k : Int), pre.length + ks.length ≤ 1048576 → Dl.szs ks ≤ 1048576 → 0 ≤ k → k + nds ks ≤ 10000000000 → ∃ l, Ll_markDeltaS_0 k (pre.length : Int) (pre ++ Dl.ows ks) = some (k + nds ks, l)
  | pre, [], k, hl, hs, h0, h1 => ⟨pre, ll_markDeltaS_0 _ _ _ (by simp [Dl.ows, nds])⟩
  | pre, .mk kd t qs :: ks, k, hl, hs, h0, h1 => by
    simp only [Dl.szs, Dl.sz, List.length_cons] at hs hl
    have hn := nd_mk kd t qs
    simp only [nds, Int.natCast_add, hn] at h1
    have ht : t.kids.length + Tr.szs t.kids ≤ 1048576 := by
      have : Tr.sz t ≤ 1048576 := by omega
      cases t; simp only [Tr.sz] at this; simp only [Tr.kids]; omega
    have i1 := s97 t.kids (k + 4) ht (by omega) (by omega)
    obtain ⟨l2, i2⟩ := dmk qs (k + 4 + 3 * cnts t.kids) (by omega) (by omega) (by omega)
    obtain ⟨l3, i3⟩ := dmk_0 (pre ++ [dv (.int .i64 k) (.str (mt (k + 1))) (.str (mt (k + 2))) (.bool (decide (Int.tmod (k + 3) 3 = 0))) (.own 4 (Tr.ows (mkTs (k + 4) t.kids))) (.own 6 l2)]) ks (k + 4 + 3 * cnts t.kids + nds qs) (by simp; omega) (by omega) (by omega) (by omega)
    simp only [List.append_assoc, List.cons_append, List.nil_append, show ∀ x : AVal, (pre ++ [x]).length = pre.length + 1 from fun x => by simp] at i3
    have ew1 : IntKind.wrap .i64 (k + 1) = k + 1 := wrap64 (by omega) (by omega)
    have ew2 : IntKind.wrap .i64 (k + 1 + 1) = k + 2 := by rw [wrap64 (by omega) (by omega)]; omega
    have ew3 : IntKind.wrap .i64 (k + 2 + 1) = k + 3 := by rw [wrap64 (by omega) (by omega)]; omega
    have ew4 : IntKind.wrap .i64 (k + 3 + 1) = k + 4 := by rw [wrap64 (by omega) (by omega)]; omega
    have hm : ∀ y : AVal, pre.length < (pre ++ y :: Dl.ows ks).length := fun y => mid_len pre (Dl.ows ks) y
    have hlen : ∀ x : AVal, (pre ++ x :: Dl.ows ks).length ≤ 9000000000000000000 := fun x => by simp [Dl.ows_len]; omega
    have e0 : Dl.ows (.mk kd t qs :: ks) = dv (.int .i64 kd) (.str t.name) (.str t.text) (.bool t.leaf) (.own 4 (Tr.ows t.kids)) (.own 6 (Dl.ows qs)) :: Dl.ows ks := by simp only [Dl.ows, Dl.ow, dv]
    refine ⟨l3, ll_markDeltaS_0 _ _ _ ?_⟩
    simp only [e0, Int.toNat_natCast, dlt_true (hm _), d0_true, Bool.and_self, Bool.and_true, cond_true, s122 (k + 1) (by omega), s122 (k + 2) (by omega), Option.bind_some, mid_get, mid_set, blt_true (hm _), bnd_eq, ew1, ew2, ew3, ew4, dv_ag, dv_l1, dv_l2, dv_l3, dv_l4, dv_s0, dv_s1, dv_s2, dv_s3, dv_g4, dv_g5, dv_p4, dv_p5, dv_e4, dv_e5, dv_u4, dv_u5, sl_own, sh_own, is_own, el_own, ag_und, Bool.not_false, i1, i2, wrap_succ (hm (dv (.int .i64 kd) (.str t.name) (.str t.text) (.bool t.leaf) (.own 4 (Tr.ows t.kids)) (.own 6 (Dl.ows qs)))) (hlen _), i3, nds, Option.some.injEq, Prod.mk.injEq, and_true]
    omega
end
end Go.Proofs.Ytfniojpjlachoaa
