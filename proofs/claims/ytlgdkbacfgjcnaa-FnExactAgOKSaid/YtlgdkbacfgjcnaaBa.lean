/- Plain data of the program, and what the helpers of the laws do to it: sizes, copies, equality; where it is not too large. -/
import Derived.Test.YtlgdkbacfgjcnaaBb
namespace Go.Proofs.Ytlgdkbacfgjcnaa
open Go.VK AVal
abbrev AttrD := Int × ByteArray × Bool
def avAttr (x : AttrD) : AVal := .agg [.int .i64 x.1, .str x.2.1, .bool x.2.2]
theorem asRo_Attr (x : AttrD) : asRo (avAttr x) = avAttr x := by simp only [avAttr, asRo, asRoL]
theorem noRo_Attr (x : AttrD) : noRo (avAttr x) = true := by simp only [avAttr, noRo, noRoL, Bool.and_self]
theorem sh_Attr (x : AttrD) : shapes [.int .i64, .str, .bool] (((avAttr x).cells.drop 0).take 3) = true := rfl
theorem c0_Attr (x : AttrD) : ((avAttr x).cell 0).toInt = x.1 := rfl
theorem p0_Attr (x : AttrD) : CT.shape (.int .i64) ((avAttr x).cell 0) = true := rfl
theorem c1_Attr (x : AttrD) : ((avAttr x).cell 1).toStr = x.2.1 := rfl
theorem p1_Attr (x : AttrD) : CT.shape (.str) ((avAttr x).cell 1) = true := rfl
theorem c2_Attr (x : AttrD) : ((avAttr x).cell 2).toBool = x.2.2 := rfl
theorem p2_Attr (x : AttrD) : CT.shape (.bool) ((avAttr x).cell 2) = true := rfl
def szAttr (x : AttrD) : Nat := x.2.1.size
def wfAttr (x : AttrD) : Prop := (x.2.1.size ≤ maxLen)
theorem tzAttr (x : AttrD) (l : Int) (hw : wfAttr x) (h0 : 0 ≤ l) (h1 : l ≤ 1048576) : Fl_szAttr x.1 x.2.1 x.2.2 l = some (szR l (szAttr x)) := by
  unfold wfAttr at hw
  unfold szAttr
  refine ul_szAttr _ _ _ _ ?_
  have w0 := hw
  have b0 : 0 ≤ l ∧ l ≤ 1048576 := by exact ⟨h0, h1⟩
  obtain ⟨e0, e0'⟩ := szR_len b0.1 b0.2 w0
  by_cases g0 : szR l (x.2.1.size) < 0
  · simp only [e0, g0, decide_true, cond_true]
    rw [szR_m1 g0 h0]
  simp only [e0, g0, decide_false, cond_false, e0' g0]
theorem toAttr (x : AttrD) : Fl_toAttr x.1 x.2.1 x.2.2 = some (x.1, x.2.1, x.2.2) := ul_toAttr _ _ _ rfl
theorem eqAttr (x : AttrD) : Fl_eqAttr x.1 x.2.1 x.2.2 x.1 x.2.1 x.2.2 = some true := ul_eqAttr _ _ _ _ _ _ (by simp only [decide_true, beq_self_eq_true, Bool.not_true, cond_false])
theorem fitAttr {y : AVal} (h : Fits ctx ty_laws_Attr y) : ∃ x : AttrD, y = avAttr x ∧ wfAttr x := by
  obtain ⟨fs, rfl, g⟩ := h.struct' (us := [ty_int, ty_string, ty_bool]) (by kernel_rfl)
  obtain ⟨v0, r, rfl, g0, g⟩ := g.cons'
  obtain ⟨v1, r, rfl, g1, g⟩ := g.cons'
  obtain ⟨v2, r, rfl, g2, g⟩ := g.cons'
  obtain rfl := g.nil'
  obtain ⟨a0, rfl, _⟩ := g0.int' (k := .i64) (by kernel_rfl)
  obtain ⟨a1, rfl, w1⟩ := g1.str' (by kernel_rfl)
  obtain ⟨a2, rfl⟩ := g2.bool' (by kernel_rfl)
  exact ⟨(a0, a1, a2), rfl, w1⟩
def totAttr : List AttrD → Nat
  | [] => 0
  | x :: r => szAttr x + totAttr r
theorem totAttr_mem : ∀ {xs : List AttrD} {x : AttrD}, x ∈ xs → szAttr x ≤ totAttr xs
  | [], x, h => by simp at h
  | y :: r, x, h => by
    simp only [List.mem_cons] at h
    simp only [totAttr]
    rcases h with rfl | h
    · omega
    · have := totAttr_mem h; omega
def szAttrS (xs : List AttrD) : Nat := xs.length + totAttr xs
def avAttrS (xs : List AttrD) : AVal := .ro false 3 (xs.map avAttr)
def aoAttrS (xs : List AttrD) : AVal := .own 3 (xs.map avAttr)
theorem asRo_AttrS (xs : List AttrD) : asRo (aoAttrS xs) = avAttrS xs := by simp only [aoAttrS, avAttrS, asRo, asRoL_map2 asRo_Attr]
theorem noRo_AttrS (xs : List AttrD) : noRo (aoAttrS xs) = true := by simp only [aoAttrS, noRo, noRoL_map noRo_Attr]
theorem tzAttrS_0 : ∀ (xs pre : List AttrD) (l : Int), (pre ++ xs).length ≤ 1048576 → (∀ y ∈ xs, wfAttr y) → 0 ≤ l → l ≤ 1048576 → Ll_szAttrS_0 ((pre ++ xs).map avAttr) l (pre.length : Int) = some (if szR l (totAttr xs) < 0 then .inl (-1) else .inr (szR l (totAttr xs)))
  | [], pre, l, hl, hx, h0, h1 => by
    refine ll_szAttrS_0 _ _ _ ?_
    have : ¬ l < 0 := by omega
    simp [totAttr, szR_zero h0, this]
  | x :: xs, pre, l, hl, hx, h0, h1 => by
    have hm := mid_len pre xs x
    rw [show totAttr (x :: xs) = szAttr x + totAttr xs from rfl]
    refine ll_szAttrS_0 _ _ _ ?_
    simp only [Int.toNat_natCast, List.length_map, dlt_true hm, d0_true, Bool.and_self, cond_true, map_mid, sh_Attr, c0_Attr, c1_Attr, c2_Attr, tzAttr x l (hx x (by simp)) h0 h1, Option.bind_some, wrap_succ hm (by omega)]
    by_cases g : szR l (szAttr x) < 0
    · simp only [g, szR_over g h0, decide_true, cond_true, show ((-1 : Int) < 0) from by omega, if_true]
    · have b := szR_le _ _ g
      have ih := tzAttrS_0 xs (pre ++ [x]) (szR l (szAttr x)) (by simpa using hl) (fun y hy => hx y (by simp [hy])) b.1 (by omega)
      simp only [List.append_assoc, List.cons_append, List.nil_append, show ∀ x : AttrD, (pre ++ [x]).length = pre.length + 1 from fun x => by simp] at ih
      rw [szR_step g] at ih
      by_cases g2 : szR l (szAttr x + totAttr xs) < 0
      · rw [if_pos g2] at ih ⊢
        simp only [g, decide_false, cond_false, ih]
      · rw [if_neg g2] at ih ⊢
        simp only [g, decide_false, cond_false, ih]
theorem tzAttrS (xs : List AttrD) (l : Int) (hw : xs.length ≤ maxLen ∧ ∀ y ∈ xs, wfAttr y) (h0 : 0 ≤ l) (h1 : l ≤ 1048576) : Fl_szAttrS (xs.map avAttr) l = some (szR l (szAttrS xs)) := by
  obtain ⟨q1, q2⟩ := szR_len h0 h1 hw.1
  unfold szAttrS
  refine ul_szAttrS _ _ ?_
  simp only [List.length_map, q1]
  by_cases g : szR l xs.length < 0
  · simp only [g, szR_over g h0, decide_true, cond_true]
  · have b := szR_le _ _ g
    have hn := szR_nn g
    have e := tzAttrS_0 xs [] (szR l xs.length) (by simpa using (by omega : xs.length ≤ 1048576)) hw.2 b.1 (by omega)
    simp only [List.nil_append, List.length_nil, Int.natCast_zero, szR_step g] at e
    by_cases g2 : szR l (xs.length + totAttr xs) < 0
    · rw [if_pos g2] at e
      simp only [g, decide_false, cond_false, q2 g, e, Option.bind_some, Sum.elim_inl, szR_m1 g2 h0]
    · rw [if_neg g2] at e
      simp only [g, decide_false, cond_false, q2 g, e, Option.bind_some, Sum.elim_inr]
theorem toAttrS_0 (xs : List AttrD) (hb : szAttrS xs ≤ 1048576) : ∀ n i : Nat, i + n = xs.length → Ll_toAttrS_0 (xs.map avAttr) (i : Int) (filled avAttr (avAttr (0, ByteArray.empty, false)) xs i) = some (xs.map avAttr)
  | 0, i, h => by
    refine ll_toAttrS_0 _ _ _ ?_
    obtain rfl : i = xs.length := by omega
    simp [filled_all]
  | n + 1, i, h => by
    have hl : xs.length ≤ 1048576 := by unfold szAttrS at hb; omega
    have hi : i < xs.length := by omega
    have ih := toAttrS_0 xs hb n (i + 1) (by omega)
    have e2 : aggQ (avAttr (0, ByteArray.empty, false)) = true := rfl
    have e4 : Nat.ble 3 (avAttr (0, ByteArray.empty, false)).cells.length = true := rfl
    have e3 : AVal.agg (setMany (avAttr (0, ByteArray.empty, false)).cells 0 [.int .i64 xs[i].1, .str xs[i].2.1, .bool xs[i].2.2]) = avAttr xs[i] := rfl
    refine ll_toAttrS_0 _ _ _ ?_
    simp only [List.length_map, Int.toNat_natCast, dlt_true hi, d0_true, Bool.and_self, cond_true, getD_map avAttr hi, filled_len avAttr (avAttr (0, ByteArray.empty, false)) (Nat.le_of_lt hi), filled_get avAttr (avAttr (0, ByteArray.empty, false)) hi, blt_true hi, wrap_succ hi (by omega), sh_Attr, c0_Attr, c1_Attr, c2_Attr, toAttr, Option.bind_some, e2, e4, e3, bnd_eq, filled_set avAttr (avAttr (0, ByteArray.empty, false)) hi, ih]
theorem toAttrS (xs : List AttrD) (hb : szAttrS xs ≤ 1048576) : Fl_toAttrS (xs.map avAttr) = some (xs.map avAttr) := by
  have hl : xs.length ≤ 1048576 := by unfold szAttrS at hb; omega
  refine ul_toAttrS _ ?_
  have e := toAttrS_0 xs hb xs.length 0 (by omega)
  rw [filled_zero] at e
  have h0 : (0 : Int) ≤ (xs.length : Int) := by omega
  simp only [Int.natCast_zero] at e
  simp only [List.length_map, Int.toNat_natCast, h0, Int.le_refl, capB_8 (b := 32) hl (by omega), decide_true, Bool.and_self, cond_true, bnd_eq]
  rw [show (.agg [.int .i64 0, .str ByteArray.empty, .bool false] : AVal) = (avAttr (0, ByteArray.empty, false)) from rfl, e]; rfl
theorem eqAttrS_0 (xs : List AttrD) (hb : szAttrS xs ≤ 1048576) : ∀ n i : Nat, i + n = xs.length → Ll_eqAttrS_0 (xs.map avAttr) (xs.map avAttr) (i : Int) = some (.inr ())
  | 0, i, h => by
    refine ll_eqAttrS_0 _ _ _ ?_
    simp [show ¬ i < xs.length by omega]
  | n + 1, i, h => by
    have hl : xs.length ≤ 1048576 := by unfold szAttrS at hb; omega
    have hi : i < xs.length := by omega
    have ih := eqAttrS_0 xs hb n (i + 1) (by omega)
    refine ll_eqAttrS_0 _ _ _ ?_
    simp only [List.length_map, Int.toNat_natCast, dlt_true hi, d0_true, Bool.and_self, cond_true, cond_false, getD_map avAttr hi, wrap_succ hi (by omega), sh_Attr, c0_Attr, c1_Attr, c2_Attr, eqAttr, Option.bind_some, Bool.not_true, ih]
theorem eqAttrS (xs : List AttrD) (hb : szAttrS xs ≤ 1048576) : Fl_eqAttrS (xs.map avAttr) (xs.map avAttr) = some true := by
  refine ul_eqAttrS _ _ ?_
  have e := eqAttrS_0 xs hb xs.length 0 (by omega)
  simp only [Int.natCast_zero] at e
  simp [e]
theorem fitAttrS : ∀ {xs : List AVal}, (∀ y ∈ xs, Fits ctx ty_laws_Attr y) → ∃ ns : List AttrD, xs = ns.map avAttr ∧ ∀ x ∈ ns, wfAttr x
  | [], _ => ⟨[], rfl, by simp⟩
  | y :: ys, h => by
    obtain ⟨x, rfl, hx⟩ := fitAttr (h y (by simp))
    obtain ⟨ns, rfl, hn⟩ := fitAttrS (xs := ys) fun z hz => h z (by simp [hz])
    exact ⟨x :: ns, rfl, fun z hz => by rcases List.mem_cons.1 hz with rfl | hz; exact hx; exact hn z hz⟩
abbrev RefD := Int × Int × Int
def avRef (x : RefD) : AVal := .agg [.int .i64 x.1, .int .i64 x.2.1, .int .i64 x.2.2]
theorem asRo_Ref (x : RefD) : asRo (avRef x) = avRef x := by simp only [avRef, asRo, asRoL]
theorem noRo_Ref (x : RefD) : noRo (avRef x) = true := by simp only [avRef, noRo, noRoL, Bool.and_self]
theorem sh_Ref (x : RefD) : shapes [.int .i64, .int .i64, .int .i64] (((avRef x).cells.drop 0).take 3) = true := rfl
theorem c0_Ref (x : RefD) : ((avRef x).cell 0).toInt = x.1 := rfl
theorem p0_Ref (x : RefD) : CT.shape (.int .i64) ((avRef x).cell 0) = true := rfl
theorem c1_Ref (x : RefD) : ((avRef x).cell 1).toInt = x.2.1 := rfl
theorem p1_Ref (x : RefD) : CT.shape (.int .i64) ((avRef x).cell 1) = true := rfl
theorem c2_Ref (x : RefD) : ((avRef x).cell 2).toInt = x.2.2 := rfl
theorem p2_Ref (x : RefD) : CT.shape (.int .i64) ((avRef x).cell 2) = true := rfl
theorem toRef (x : RefD) : Fl_toRef x.1 x.2.1 x.2.2 = some (x.1, x.2.1, x.2.2) := ul_toRef _ _ _ rfl
theorem eqRef (x : RefD) : Fl_eqRef x.1 x.2.1 x.2.2 x.1 x.2.1 x.2.2 = some true := ul_eqRef _ _ _ _ _ _ (by simp only [decide_true, beq_self_eq_true, Bool.not_true, cond_false])
theorem fitRef {y : AVal} (h : Fits ctx ty_laws_Ref y) : ∃ x : RefD, y = avRef x := by
  obtain ⟨fs, rfl, g⟩ := h.struct' (us := [ty_int, ty_int, ty_int]) (by kernel_rfl)
  obtain ⟨v0, r, rfl, g0, g⟩ := g.cons'
  obtain ⟨v1, r, rfl, g1, g⟩ := g.cons'
  obtain ⟨v2, r, rfl, g2, g⟩ := g.cons'
  obtain rfl := g.nil'
  obtain ⟨a0, rfl, _⟩ := g0.int' (k := .i64) (by kernel_rfl)
  obtain ⟨a1, rfl, _⟩ := g1.int' (k := .i64) (by kernel_rfl)
  obtain ⟨a2, rfl, _⟩ := g2.int' (k := .i64) (by kernel_rfl)
  exact ⟨(a0, a1, a2), rfl⟩
def avRefS (xs : List RefD) : AVal := .ro false 3 (xs.map avRef)
def aoRefS (xs : List RefD) : AVal := .own 3 (xs.map avRef)
theorem asRo_RefS (xs : List RefD) : asRo (aoRefS xs) = avRefS xs := by simp only [aoRefS, avRefS, asRo, asRoL_map2 asRo_Ref]
theorem noRo_RefS (xs : List RefD) : noRo (aoRefS xs) = true := by simp only [aoRefS, noRo, noRoL_map noRo_Ref]
theorem tzRefS (xs : List RefD) (l : Int) (hl : xs.length ≤ maxLen) (h0 : 0 ≤ l) (h1 : l ≤ 1048576) : Fl_szRefS (xs.map avRef) l = some (szR l xs.length) := by
  unfold maxLen at hl
  refine ul_szRefS _ _ ?_
  have e : IntKind.wrap .i64 (l - (xs.length : Int)) = l - (xs.length : Int) := wrap64 (by omega) (by omega)
  unfold szR
  by_cases g : l < (xs.length : Int)
  · have : l - (xs.length : Int) < 0 := by omega
    simp [e, g, this]
  · have : ¬ l - (xs.length : Int) < 0 := by omega
    simp [e, g, this]
theorem toRefS_0 (xs : List RefD) (hb : xs.length ≤ 1048576) : ∀ n i : Nat, i + n = xs.length → Ll_toRefS_0 (xs.map avRef) (i : Int) (filled avRef (avRef (0, 0, 0)) xs i) = some (xs.map avRef)
  | 0, i, h => by
    refine ll_toRefS_0 _ _ _ ?_
    obtain rfl : i = xs.length := by omega
    simp [filled_all]
  | n + 1, i, h => by
    have hl := hb
    have hi : i < xs.length := by omega
    have ih := toRefS_0 xs hb n (i + 1) (by omega)
    have e2 : aggQ (avRef (0, 0, 0)) = true := rfl
    have e4 : Nat.ble 3 (avRef (0, 0, 0)).cells.length = true := rfl
    have e3 : AVal.agg (setMany (avRef (0, 0, 0)).cells 0 [.int .i64 xs[i].1, .int .i64 xs[i].2.1, .int .i64 xs[i].2.2]) = avRef xs[i] := rfl
    refine ll_toRefS_0 _ _ _ ?_
    simp only [List.length_map, Int.toNat_natCast, dlt_true hi, d0_true, Bool.and_self, cond_true, getD_map avRef hi, filled_len avRef (avRef (0, 0, 0)) (Nat.le_of_lt hi), filled_get avRef (avRef (0, 0, 0)) hi, blt_true hi, wrap_succ hi (by omega), sh_Ref, c0_Ref, c1_Ref, c2_Ref, toRef, Option.bind_some, e2, e4, e3, bnd_eq, filled_set avRef (avRef (0, 0, 0)) hi, ih]
theorem toRefS (xs : List RefD) (hb : xs.length ≤ 1048576) : Fl_toRefS (xs.map avRef) = some (xs.map avRef) := by
  have hl := hb
  refine ul_toRefS _ ?_
  have e := toRefS_0 xs hb xs.length 0 (by omega)
  rw [filled_zero] at e
  have h0 : (0 : Int) ≤ (xs.length : Int) := by omega
  simp only [Int.natCast_zero] at e
  simp only [List.length_map, Int.toNat_natCast, h0, Int.le_refl, capB_8 (b := 24) hl (by omega), decide_true, Bool.and_self, cond_true, bnd_eq]
  rw [show (.agg [.int .i64 0, .int .i64 0, .int .i64 0] : AVal) = (avRef (0, 0, 0)) from rfl, e]; rfl
theorem eqRefS_0 (xs : List RefD) (hb : xs.length ≤ 1048576) : ∀ n i : Nat, i + n = xs.length → Ll_eqRefS_0 (xs.map avRef) (xs.map avRef) (i : Int) = some (.inr ())
  | 0, i, h => by
    refine ll_eqRefS_0 _ _ _ ?_
    simp [show ¬ i < xs.length by omega]
  | n + 1, i, h => by
    have hl := hb
    have hi : i < xs.length := by omega
    have ih := eqRefS_0 xs hb n (i + 1) (by omega)
    refine ll_eqRefS_0 _ _ _ ?_
    simp only [List.length_map, Int.toNat_natCast, dlt_true hi, d0_true, Bool.and_self, cond_true, cond_false, getD_map avRef hi, wrap_succ hi (by omega), sh_Ref, c0_Ref, c1_Ref, c2_Ref, eqRef, Option.bind_some, Bool.not_true, ih]
theorem eqRefS (xs : List RefD) (hb : xs.length ≤ 1048576) : Fl_eqRefS (xs.map avRef) (xs.map avRef) = some true := by
  refine ul_eqRefS _ _ ?_
  have e := eqRefS_0 xs hb xs.length 0 (by omega)
  simp only [Int.natCast_zero] at e
  simp [e]
theorem fitRefS : ∀ {xs : List AVal}, (∀ y ∈ xs, Fits ctx ty_laws_Ref y) → ∃ ns : List RefD, xs = ns.map avRef
  | [], _ => ⟨[], rfl⟩
  | y :: ys, h => by
    obtain ⟨x, rfl⟩ := fitRef (h y (by simp))
    obtain ⟨ns, rfl⟩ := fitRefS (xs := ys) fun z hz => h z (by simp [hz])
    exact ⟨x :: ns, rfl⟩
abbrev EqD := Int × Int × Int × Int × List RefD
def avEq (x : EqD) : AVal := .agg [.int .i64 x.1, .int .i64 x.2.1, .int .i64 x.2.2.1, .int .i64 x.2.2.2.1, .ro false 3 (x.2.2.2.2.map avRef)]
def aoEq (x : EqD) : AVal := .agg [.int .i64 x.1, .int .i64 x.2.1, .int .i64 x.2.2.1, .int .i64 x.2.2.2.1, .own 3 (x.2.2.2.2.map avRef)]
theorem asRo_Eq (x : EqD) : asRo (aoEq x) = avEq x := by simp only [aoEq, avEq, asRo, asRoL, asRoL_map2 asRo_Ref]
theorem noRo_Eq (x : EqD) : noRo (aoEq x) = true := by simp only [aoEq, noRo, noRoL, noRoL_map noRo_Ref, Bool.and_self]
theorem sh_Eq (x : EqD) : shapes [.int .i64, .int .i64, .int .i64, .int .i64, .slice 3] (((avEq x).cells.drop 0).take 5) = true := rfl
theorem c0_Eq (x : EqD) : ((avEq x).cell 0).toInt = x.1 := rfl
theorem p0_Eq (x : EqD) : CT.shape (.int .i64) ((avEq x).cell 0) = true := rfl
theorem c1_Eq (x : EqD) : ((avEq x).cell 1).toInt = x.2.1 := rfl
theorem p1_Eq (x : EqD) : CT.shape (.int .i64) ((avEq x).cell 1) = true := rfl
theorem c2_Eq (x : EqD) : ((avEq x).cell 2).toInt = x.2.2.1 := rfl
theorem p2_Eq (x : EqD) : CT.shape (.int .i64) ((avEq x).cell 2) = true := rfl
theorem c3_Eq (x : EqD) : ((avEq x).cell 3).toInt = x.2.2.2.1 := rfl
theorem p3_Eq (x : EqD) : CT.shape (.int .i64) ((avEq x).cell 3) = true := rfl
theorem c4_Eq (x : EqD) : ((avEq x).cell 4).elems = x.2.2.2.2.map avRef := rfl
theorem p4_Eq (x : EqD) : CT.shape (.slice 3) ((avEq x).cell 4) = true := rfl
def szEq (x : EqD) : Nat := x.2.2.2.2.length
def wfEq (x : EqD) : Prop := (x.2.2.2.2.length ≤ maxLen)
theorem tzEq (x : EqD) (l : Int) (hw : wfEq x) (h0 : 0 ≤ l) (h1 : l ≤ 1048576) : Fl_szEq x.1 x.2.1 x.2.2.1 x.2.2.2.1 (x.2.2.2.2.map avRef) l = some (szR l (szEq x)) := by
  unfold wfEq at hw
  unfold szEq
  refine ul_szEq _ _ _ _ _ _ ?_
  have w0 := hw
  have b0 : 0 ≤ l ∧ l ≤ 1048576 := by exact ⟨h0, h1⟩
  have e0 := tzRefS x.2.2.2.2 (l) w0 b0.1 b0.2
  by_cases g0 : szR l (x.2.2.2.2.length) < 0
  · simp only [e0, g0, Option.bind_some, decide_true, cond_true]
    rw [szR_m1 g0 h0]
  simp only [e0, g0, Option.bind_some, decide_false, cond_false]
theorem toEq (x : EqD) (h : szEq x ≤ 1048576) : Fl_toEq x.1 x.2.1 x.2.2.1 x.2.2.2.1 (x.2.2.2.2.map avRef) = some (x.1, x.2.1, x.2.2.1, x.2.2.2.1, (x.2.2.2.2.map avRef)) := by
  unfold szEq at h
  refine ul_toEq _ _ _ _ _ ?_
  simp only [toRefS x.2.2.2.2 (by omega), Option.bind_some]
theorem eqEq (x : EqD) (h : szEq x ≤ 1048576) : Fl_eqEq x.1 x.2.1 x.2.2.1 x.2.2.2.1 (x.2.2.2.2.map avRef) x.1 x.2.1 x.2.2.1 x.2.2.2.1 (x.2.2.2.2.map avRef) = some true := by
  unfold szEq at h
  refine ul_eqEq _ _ _ _ _ _ _ _ _ _ ?_
  simp only [eqRefS x.2.2.2.2 (by omega), Option.bind_some, decide_true, beq_self_eq_true, Bool.not_true, cond_false]
theorem fitEq {y : AVal} (h : Fits ctx ty_laws_Eq y) : ∃ x : EqD, y = avEq x ∧ wfEq x := by
  obtain ⟨fs, rfl, g⟩ := h.struct' (us := [ty_int, ty_int, ty_int, ty_int, ty_S_laws_Ref]) (by kernel_rfl)
  obtain ⟨v0, r, rfl, g0, g⟩ := g.cons'
  obtain ⟨v1, r, rfl, g1, g⟩ := g.cons'
  obtain ⟨v2, r, rfl, g2, g⟩ := g.cons'
  obtain ⟨v3, r, rfl, g3, g⟩ := g.cons'
  obtain ⟨v4, r, rfl, g4, g⟩ := g.cons'
  obtain rfl := g.nil'
  obtain ⟨a0, rfl, _⟩ := g0.int' (k := .i64) (by kernel_rfl)
  obtain ⟨a1, rfl, _⟩ := g1.int' (k := .i64) (by kernel_rfl)
  obtain ⟨a2, rfl, _⟩ := g2.int' (k := .i64) (by kernel_rfl)
  obtain ⟨a3, rfl, _⟩ := g3.int' (k := .i64) (by kernel_rfl)
  obtain ⟨x4, rfl, l4, q4⟩ := g4.slice' (sz := 3) (e := ty_laws_Ref) (by kernel_rfl)
  obtain ⟨a4, rfl⟩ := fitRefS q4
  rw [List.length_map] at l4
  exact ⟨(a0, a1, a2, a3, a4), rfl, l4⟩
def totEq : List EqD → Nat
  | [] => 0
  | x :: r => szEq x + totEq r
theorem totEq_mem : ∀ {xs : List EqD} {x : EqD}, x ∈ xs → szEq x ≤ totEq xs
  | [], x, h => by simp at h
  | y :: r, x, h => by
    simp only [List.mem_cons] at h
    simp only [totEq]
    rcases h with rfl | h
    · omega
    · have := totEq_mem h; omega
def szEqS (xs : List EqD) : Nat := xs.length + totEq xs
def avEqS (xs : List EqD) : AVal := .ro false 5 (xs.map avEq)
def aoEqS (xs : List EqD) : AVal := .own 5 (xs.map aoEq)
theorem asRo_EqS (xs : List EqD) : asRo (aoEqS xs) = avEqS xs := by simp only [aoEqS, avEqS, asRo, asRoL_map2 asRo_Eq]
theorem noRo_EqS (xs : List EqD) : noRo (aoEqS xs) = true := by simp only [aoEqS, noRo, noRoL_map noRo_Eq]
theorem tzEqS_0 : ∀ (xs pre : List EqD) (l : Int), (pre ++ xs).length ≤ 1048576 → (∀ y ∈ xs, wfEq y) → 0 ≤ l → l ≤ 1048576 → Ll_szEqS_0 ((pre ++ xs).map avEq) l (pre.length : Int) = some (if szR l (totEq xs) < 0 then .inl (-1) else .inr (szR l (totEq xs)))
  | [], pre, l, hl, hx, h0, h1 => by
    refine ll_szEqS_0 _ _ _ ?_
    have : ¬ l < 0 := by omega
    simp [totEq, szR_zero h0, this]
  | x :: xs, pre, l, hl, hx, h0, h1 => by
    have hm := mid_len pre xs x
    rw [show totEq (x :: xs) = szEq x + totEq xs from rfl]
    refine ll_szEqS_0 _ _ _ ?_
    simp only [Int.toNat_natCast, List.length_map, dlt_true hm, d0_true, Bool.and_self, cond_true, map_mid, sh_Eq, c0_Eq, c1_Eq, c2_Eq, c3_Eq, c4_Eq, tzEq x l (hx x (by simp)) h0 h1, Option.bind_some, wrap_succ hm (by omega)]
    by_cases g : szR l (szEq x) < 0
    · simp only [g, szR_over g h0, decide_true, cond_true, show ((-1 : Int) < 0) from by omega, if_true]
    · have b := szR_le _ _ g
      have ih := tzEqS_0 xs (pre ++ [x]) (szR l (szEq x)) (by simpa using hl) (fun y hy => hx y (by simp [hy])) b.1 (by omega)
      simp only [List.append_assoc, List.cons_append, List.nil_append, show ∀ x : EqD, (pre ++ [x]).length = pre.length + 1 from fun x => by simp] at ih
      rw [szR_step g] at ih
      by_cases g2 : szR l (szEq x + totEq xs) < 0
      · rw [if_pos g2] at ih ⊢
        simp only [g, decide_false, cond_false, ih]
      · rw [if_neg g2] at ih ⊢
        simp only [g, decide_false, cond_false, ih]
theorem tzEqS (xs : List EqD) (l : Int) (hw : xs.length ≤ maxLen ∧ ∀ y ∈ xs, wfEq y) (h0 : 0 ≤ l) (h1 : l ≤ 1048576) : Fl_szEqS (xs.map avEq) l = some (szR l (szEqS xs)) := by
  obtain ⟨q1, q2⟩ := szR_len h0 h1 hw.1
  unfold szEqS
  refine ul_szEqS _ _ ?_
  simp only [List.length_map, q1]
  by_cases g : szR l xs.length < 0
  · simp only [g, szR_over g h0, decide_true, cond_true]
  · have b := szR_le _ _ g
    have hn := szR_nn g
    have e := tzEqS_0 xs [] (szR l xs.length) (by simpa using (by omega : xs.length ≤ 1048576)) hw.2 b.1 (by omega)
    simp only [List.nil_append, List.length_nil, Int.natCast_zero, szR_step g] at e
    by_cases g2 : szR l (xs.length + totEq xs) < 0
    · rw [if_pos g2] at e
      simp only [g, decide_false, cond_false, q2 g, e, Option.bind_some, Sum.elim_inl, szR_m1 g2 h0]
    · rw [if_neg g2] at e
      simp only [g, decide_false, cond_false, q2 g, e, Option.bind_some, Sum.elim_inr]
theorem toEqS_0 (xs : List EqD) (hb : szEqS xs ≤ 1048576) : ∀ n i : Nat, i + n = xs.length → Ll_toEqS_0 (xs.map avEq) (i : Int) (filled aoEq (aoEq (0, 0, 0, 0, [])) xs i) = some (xs.map aoEq)
  | 0, i, h => by
    refine ll_toEqS_0 _ _ _ ?_
    obtain rfl : i = xs.length := by omega
    simp [filled_all]
  | n + 1, i, h => by
    have hl : xs.length ≤ 1048576 := by unfold szEqS at hb; omega
    have hi : i < xs.length := by omega
    have ih := toEqS_0 xs hb n (i + 1) (by omega)
    have e2 : aggQ (aoEq (0, 0, 0, 0, [])) = true := rfl
    have e4 : Nat.ble 5 (aoEq (0, 0, 0, 0, [])).cells.length = true := rfl
    have e3 : AVal.agg (setMany (aoEq (0, 0, 0, 0, [])).cells 0 [.int .i64 xs[i].1, .int .i64 xs[i].2.1, .int .i64 xs[i].2.2.1, .int .i64 xs[i].2.2.2.1, .own 3 (xs[i].2.2.2.2.map avRef)]) = aoEq xs[i] := rfl
    have hz : szEq xs[i] ≤ 1048576 := by have := totEq_mem (List.getElem_mem hi); unfold szEqS at hb; omega
    refine ll_toEqS_0 _ _ _ ?_
    simp only [List.length_map, Int.toNat_natCast, dlt_true hi, d0_true, Bool.and_self, cond_true, getD_map avEq hi, filled_len aoEq (aoEq (0, 0, 0, 0, [])) (Nat.le_of_lt hi), filled_get aoEq (aoEq (0, 0, 0, 0, [])) hi, blt_true hi, wrap_succ hi (by omega), sh_Eq, c0_Eq, c1_Eq, c2_Eq, c3_Eq, c4_Eq, toEq xs[i] hz, Option.bind_some, e2, e4, e3, bnd_eq, filled_set aoEq (aoEq (0, 0, 0, 0, [])) hi, ih]
theorem toEqS (xs : List EqD) (hb : szEqS xs ≤ 1048576) : Fl_toEqS (xs.map avEq) = some (xs.map aoEq) := by
  have hl : xs.length ≤ 1048576 := by unfold szEqS at hb; omega
  refine ul_toEqS _ ?_
  have e := toEqS_0 xs hb xs.length 0 (by omega)
  rw [filled_zero] at e
  have h0 : (0 : Int) ≤ (xs.length : Int) := by omega
  simp only [Int.natCast_zero] at e
  simp only [List.length_map, Int.toNat_natCast, h0, Int.le_refl, capB_8 (b := 56) hl (by omega), decide_true, Bool.and_self, cond_true, bnd_eq]
  rw [show (.agg [.int .i64 0, .int .i64 0, .int .i64 0, .int .i64 0, .own 3 []] : AVal) = (aoEq (0, 0, 0, 0, [])) from rfl, e]; rfl
theorem eqEqS_0 (xs : List EqD) (hb : szEqS xs ≤ 1048576) : ∀ n i : Nat, i + n = xs.length → Ll_eqEqS_0 (xs.map avEq) (xs.map avEq) (i : Int) = some (.inr ())
  | 0, i, h => by
    refine ll_eqEqS_0 _ _ _ ?_
    simp [show ¬ i < xs.length by omega]
  | n + 1, i, h => by
    have hl : xs.length ≤ 1048576 := by unfold szEqS at hb; omega
    have hi : i < xs.length := by omega
    have ih := eqEqS_0 xs hb n (i + 1) (by omega)
    have hz : szEq xs[i] ≤ 1048576 := by have := totEq_mem (List.getElem_mem hi); unfold szEqS at hb; omega
    refine ll_eqEqS_0 _ _ _ ?_
    simp only [List.length_map, Int.toNat_natCast, dlt_true hi, d0_true, Bool.and_self, cond_true, cond_false, getD_map avEq hi, wrap_succ hi (by omega), sh_Eq, c0_Eq, c1_Eq, c2_Eq, c3_Eq, c4_Eq, eqEq xs[i] hz, Option.bind_some, Bool.not_true, ih]
theorem eqEqS (xs : List EqD) (hb : szEqS xs ≤ 1048576) : Fl_eqEqS (xs.map avEq) (xs.map avEq) = some true := by
  refine ul_eqEqS _ _ ?_
  have e := eqEqS_0 xs hb xs.length 0 (by omega)
  simp only [Int.natCast_zero] at e
  simp [e]
theorem fitEqS : ∀ {xs : List AVal}, (∀ y ∈ xs, Fits ctx ty_laws_Eq y) → ∃ ns : List EqD, xs = ns.map avEq ∧ ∀ x ∈ ns, wfEq x
  | [], _ => ⟨[], rfl, by simp⟩
  | y :: ys, h => by
    obtain ⟨x, rfl, hx⟩ := fitEq (h y (by simp))
    obtain ⟨ns, rfl, hn⟩ := fitEqS (xs := ys) fun z hz => h z (by simp [hz])
    exact ⟨x :: ns, rfl, fun z hz => by rcases List.mem_cons.1 hz with rfl | hz; exact hx; exact hn z hz⟩
abbrev AgD := List AttrD × List EqD
def avAg (x : AgD) : AVal := .agg [.ro false 3 (x.1.map avAttr), .ro false 5 (x.2.map avEq)]
def aoAg (x : AgD) : AVal := .agg [.own 3 (x.1.map avAttr), .own 5 (x.2.map aoEq)]
theorem asRo_Ag (x : AgD) : asRo (aoAg x) = avAg x := by simp only [aoAg, avAg, asRo, asRoL, asRoL_map2 asRo_Attr, asRoL_map2 asRo_Eq]
theorem noRo_Ag (x : AgD) : noRo (aoAg x) = true := by simp only [aoAg, noRo, noRoL, noRoL_map noRo_Attr, noRoL_map noRo_Eq, Bool.and_self]
theorem sh_Ag (x : AgD) : shapes [.slice 3, .slice 5] (((avAg x).cells.drop 0).take 2) = true := rfl
theorem c0_Ag (x : AgD) : ((avAg x).cell 0).elems = x.1.map avAttr := rfl
theorem p0_Ag (x : AgD) : CT.shape (.slice 3) ((avAg x).cell 0) = true := rfl
theorem c1_Ag (x : AgD) : ((avAg x).cell 1).elems = x.2.map avEq := rfl
theorem p1_Ag (x : AgD) : CT.shape (.slice 5) ((avAg x).cell 1) = true := rfl
def szAg (x : AgD) : Nat := szAttrS x.1 + szEqS x.2
def wfAg (x : AgD) : Prop := (x.1.length ≤ maxLen ∧ ∀ y ∈ x.1, wfAttr y) ∧ (x.2.length ≤ maxLen ∧ ∀ y ∈ x.2, wfEq y)
theorem tzAg (x : AgD) (l : Int) (hw : wfAg x) (h0 : 0 ≤ l) (h1 : l ≤ 1048576) : Fl_szAg (x.1.map avAttr) (x.2.map avEq) l = some (szR l (szAg x)) := by
  unfold wfAg at hw
  unfold szAg
  refine ul_szAg _ _ _ ?_
  obtain ⟨w0, w1⟩ := hw
  have b0 : 0 ≤ l ∧ l ≤ 1048576 := by exact ⟨h0, h1⟩
  have e0 := tzAttrS x.1 (l) w0 b0.1 b0.2
  by_cases g0 : szR l (szAttrS x.1) < 0
  · simp only [e0, g0, Option.bind_some, decide_true, cond_true]
    rw [show szR l (szAttrS x.1 + szEqS x.2) = -1 from by rw [show szAttrS x.1 + szEqS x.2 = (szAttrS x.1) + (szEqS x.2) by omega]; exact szR_over g0 h0]
  have b1 : 0 ≤ szR l (szAttrS x.1) ∧ szR l (szAttrS x.1) ≤ 1048576 := by have := szR_le _ _ g0; omega
  have e1 := tzEqS x.2 (szR l (szAttrS x.1)) w1 b1.1 b1.2
  rw [szR_step g0] at e1
  by_cases g1 : szR l (szAttrS x.1 + szEqS x.2) < 0
  · simp only [e0, g0, Option.bind_some, decide_false, cond_false, e1, g1, Option.bind_some, decide_true, cond_true]
    rw [szR_m1 g1 h0]
  simp only [e0, g0, Option.bind_some, decide_false, cond_false, e1, g1]
theorem toAg (x : AgD) (h : szAg x ≤ 1048576) : Fl_toAg (x.1.map avAttr) (x.2.map avEq) = some ((x.1.map avAttr), (x.2.map aoEq)) := by
  unfold szAg at h
  refine ul_toAg _ _ ?_
  simp only [toAttrS x.1 (by omega), toEqS x.2 (by omega), Option.bind_some]
theorem eqAg (x : AgD) (h : szAg x ≤ 1048576) : Fl_eqAg (x.1.map avAttr) (x.2.map avEq) (x.1.map avAttr) (x.2.map avEq) = some true := by
  unfold szAg at h
  refine ul_eqAg _ _ _ _ ?_
  simp only [eqAttrS x.1 (by omega), eqEqS x.2 (by omega), Option.bind_some, decide_true, beq_self_eq_true, Bool.not_true, cond_false]
theorem fitAg {y : AVal} (h : Fits ctx ty_laws_Ag y) : ∃ x : AgD, y = avAg x ∧ wfAg x := by
  obtain ⟨fs, rfl, g⟩ := h.struct' (us := [ty_S_laws_Attr, ty_S_laws_Eq]) (by kernel_rfl)
  obtain ⟨v0, r, rfl, g0, g⟩ := g.cons'
  obtain ⟨v1, r, rfl, g1, g⟩ := g.cons'
  obtain rfl := g.nil'
  obtain ⟨x0, rfl, l0, q0⟩ := g0.slice' (sz := 3) (e := ty_laws_Attr) (by kernel_rfl)
  obtain ⟨a0, rfl, w0⟩ := fitAttrS q0
  rw [List.length_map] at l0
  obtain ⟨x1, rfl, l1, q1⟩ := g1.slice' (sz := 5) (e := ty_laws_Eq) (by kernel_rfl)
  obtain ⟨a1, rfl, w1⟩ := fitEqS q1
  rw [List.length_map] at l1
  exact ⟨(a0, a1), rfl, ⟨⟨l0, w0⟩, ⟨l1, w1⟩⟩⟩
end Go.Proofs.Ytlgdkbacfgjcnaa
