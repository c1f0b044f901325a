/- Small structs as plain data, and what the helpers of the laws do to rows of them; where a row is not too long. -/
import Derived.Test.YtfniojpjlachoaaMt
namespace Go.Proofs.Ytfniojpjlachoaa
open Go.VK AVal
abbrev SEdgeD := Int × Int × Int
def avSEdge (x : SEdgeD) : AVal := .agg [.int .i64 x.1, .int .i64 x.2.1, .int .i64 x.2.2]
theorem asRo_SEdge (x : SEdgeD) : asRo (avSEdge x) = avSEdge x := by simp [avSEdge, asRo, asRoL]
theorem noRo_SEdge (x : SEdgeD) : noRo (avSEdge x) = true := by simp [avSEdge, noRo, noRoL]
theorem sh_SEdge (x : SEdgeD) : shapes [.int .i64, .int .i64, .int .i64] (((avSEdge x).cells.drop 0).take 3) = true := rfl
theorem c0_SEdge (x : SEdgeD) : ((avSEdge x).cell 0).toInt = x.1 := rfl
theorem p0_SEdge (x : SEdgeD) : CT.shape (.int .i64) ((avSEdge x).cell 0) = true := rfl
theorem c1_SEdge (x : SEdgeD) : ((avSEdge x).cell 1).toInt = x.2.1 := rfl
theorem p1_SEdge (x : SEdgeD) : CT.shape (.int .i64) ((avSEdge x).cell 1) = true := rfl
theorem c2_SEdge (x : SEdgeD) : ((avSEdge x).cell 2).toInt = x.2.2 := rfl
theorem p2_SEdge (x : SEdgeD) : CT.shape (.int .i64) ((avSEdge x).cell 2) = true := rfl
def szSEdge (x : SEdgeD) : Nat := 0
def wfSEdge (x : SEdgeD) : Prop := True
def totSEdge : List SEdgeD → Nat
  | [] => 0
  | x :: r => szSEdge x + totSEdge r
theorem totSEdge_mem : ∀ {xs : List SEdgeD} {x : SEdgeD}, x ∈ xs → szSEdge x ≤ totSEdge xs
  | [], x, h => by simp at h
  | y :: r, x, h => by
    simp only [List.mem_cons] at h
    simp only [totSEdge]
    rcases h with rfl | h
    · omega
    · have := totSEdge_mem h; omega
theorem totSEdge_zero : ∀ xs : List SEdgeD, totSEdge xs = 0
  | [] => rfl
  | x :: r => by simp only [totSEdge, szSEdge, totSEdge_zero r]
theorem tzSEdgeS (xs : List SEdgeD) (l : Int) (hl : xs.length ≤ maxLen) (_hx : ∀ x ∈ xs, wfSEdge x) (h0 : 0 ≤ l) (h1 : l ≤ 1048576) : Fl_szSEdgeS (xs.map avSEdge) l = some (szR l (xs.length + totSEdge xs)) := by
  unfold maxLen at hl
  refine ul_szSEdgeS _ _ ?_
  have e : IntKind.wrap .i64 (l - (xs.length : Int)) = l - (xs.length : Int) := wrap64 (by omega) (by omega)
  rw [totSEdge_zero, Nat.add_zero]
  unfold szR
  by_cases g : l < (xs.length : Int)
  · have : l - (xs.length : Int) < 0 := by omega
    simp [e, g, this]
  · have : ¬ l - (xs.length : Int) < 0 := by omega
    simp [e, g, this]
theorem toSEdge (x0 : Int) (x1 : Int) (x2 : Int) : Fl_toSEdge x0 x1 x2 = some (x0, x1, x2) := ul_toSEdge _ _ _  rfl
theorem toSEdgeS_0 (xs : List SEdgeD) (hl : xs.length ≤ 1048576) : ∀ n i : Nat, i + n = xs.length → Ll_toSEdgeS_0 (xs.map avSEdge) (i : Int) (filled avSEdge (avSEdge (0, 0, 0)) xs i) = some (xs.map avSEdge)
  | 0, i, h => by
    refine ll_toSEdgeS_0 _ _ _ ?_
    obtain rfl : i = xs.length := by omega
    simp [filled_all]
  | n + 1, i, h => by
    have hi : i < xs.length := by omega
    refine ll_toSEdgeS_0 _ _ _ ?_
    have e2 : aggQ (avSEdge (0, 0, 0)) = true := rfl
    have e4 : Nat.ble 3 (avSEdge (0, 0, 0)).cells.length = true := rfl
    have e3 : AVal.agg (setMany (avSEdge (0, 0, 0)).cells 0 [.int .i64 xs[i].1, .int .i64 xs[i].2.1, .int .i64 xs[i].2.2]) = avSEdge xs[i] := rfl
    have ih := toSEdgeS_0 xs hl n (i + 1) (by omega)
    simp only [List.length_map, Int.toNat_natCast, dlt_true hi, d0_true, Bool.and_self, cond_true, getD_map avSEdge hi, sh_SEdge, c0_SEdge, c1_SEdge, c2_SEdge, toSEdge, Option.bind_some, filled_len avSEdge (avSEdge (0, 0, 0)) (Nat.le_of_lt hi), filled_get avSEdge (avSEdge (0, 0, 0)) hi, blt_true hi, e2, e4, wrap_succ hi (by omega), e3, filled_set avSEdge (avSEdge (0, 0, 0)) hi, bnd_eq, ih]
theorem toSEdgeS (xs : List SEdgeD) (hl : xs.length ≤ 1048576) : Fl_toSEdgeS (xs.map avSEdge) = some (xs.map avSEdge) := by
  refine ul_toSEdgeS _ ?_
  have e := toSEdgeS_0 xs hl xs.length 0 (by omega)
  rw [filled_zero] at e
  have h0 : (0 : Int) ≤ (xs.length : Int) := by omega
  have hc : ∀ b : Nat, b ≤ 1000 → capB xs.length b = true := fun b hb => capB_le (Nat.le_trans (Nat.mul_le_mul hl hb) (by omega))
  simp only [Int.natCast_zero] at e
  simp only [List.length_map, Int.toNat_natCast, h0, Int.le_refl, hc 24 (by omega), decide_true, Bool.and_self, cond_true, bnd_eq]
  rw [show (.agg [.int .i64 0, .int .i64 0, .int .i64 0] : AVal) = avSEdge (0, 0, 0) from rfl, e]; rfl
theorem eqSEdge (x0 : Int) (x1 : Int) (x2 : Int) : Fl_eqSEdge x0 x1 x2 x0 x1 x2 = some true := ul_eqSEdge _ _ _ _ _ _  (by simp)
theorem eqSEdgeS_0 (xs : List SEdgeD) (hl : xs.length ≤ 1048576) : ∀ n i : Nat, i + n = xs.length → Ll_eqSEdgeS_0 (xs.map avSEdge) (xs.map avSEdge) (i : Int) = some (.inr ())
  | 0, i, h => by
    refine ll_eqSEdgeS_0 _ _ _ ?_
    simp [show ¬ i < xs.length by omega]
  | n + 1, i, h => by
    have hi : i < xs.length := by omega
    refine ll_eqSEdgeS_0 _ _ _ ?_
    simp only [List.length_map, Int.toNat_natCast, dlt_true hi, d0_true, Bool.and_self, cond_true, cond_false, getD_map avSEdge hi, sh_SEdge, c0_SEdge, c1_SEdge, c2_SEdge, eqSEdge, Option.bind_some, Bool.not_true, wrap_succ hi (by omega), eqSEdgeS_0 xs hl n (i + 1) (by omega)]
theorem eqSEdgeS (xs : List SEdgeD) (hl : xs.length ≤ 1048576) : Fl_eqSEdgeS (xs.map avSEdge) (xs.map avSEdge) = some true := by
  refine ul_eqSEdgeS _ _ ?_
  have e := eqSEdgeS_0 xs hl xs.length 0 (by omega)
  simp only [Int.natCast_zero] at e
  simp [e]
theorem fitSEdge {y : AVal} (h : Fits ctx ty_laws_SEdge y) : ∃ x : SEdgeD, y = avSEdge x ∧ wfSEdge x := by
  obtain ⟨fs, rfl, g⟩ := h.struct' (us := [ty_int, ty_int, ty_int]) (by kernel_rfl)
  obtain ⟨v0, r, rfl, g0, g⟩ := g.cons'
  obtain ⟨v1, r, rfl, g1, g⟩ := g.cons'
  obtain ⟨v2, r, rfl, g2, g⟩ := g.cons'
  obtain rfl := g.nil'
  obtain ⟨a0, rfl, _⟩ := g0.int' (k := .i64) (by kernel_rfl)
  obtain ⟨a1, rfl, _⟩ := g1.int' (k := .i64) (by kernel_rfl)
  obtain ⟨a2, rfl, _⟩ := g2.int' (k := .i64) (by kernel_rfl)
  exact ⟨(a0, a1, a2), rfl, trivial⟩
theorem fitSEdgeS : ∀ {xs : List AVal}, (∀ y ∈ xs, Fits ctx ty_laws_SEdge y) → ∃ ns : List SEdgeD, xs = ns.map avSEdge ∧ ∀ x ∈ ns, wfSEdge x
  | [], _ => ⟨[], rfl, by simp⟩
  | y :: ys, h => by
    obtain ⟨x, rfl, hx⟩ := fitSEdge (h y (by simp))
    obtain ⟨ns, rfl, hn⟩ := fitSEdgeS (xs := ys) fun z hz => h z (by simp [hz])
    exact ⟨x :: ns, rfl, fun z hz => by rcases List.mem_cons.1 hz with rfl | hz; exact hx; exact hn z hz⟩
abbrev SpotD := Int × ByteArray
def avSpot (x : SpotD) : AVal := .agg [.int .i64 x.1, .str x.2]
theorem asRo_Spot (x : SpotD) : asRo (avSpot x) = avSpot x := by simp [avSpot, asRo, asRoL]
theorem noRo_Spot (x : SpotD) : noRo (avSpot x) = true := by simp [avSpot, noRo, noRoL]
theorem sh_Spot (x : SpotD) : shapes [.int .i64, .str] (((avSpot x).cells.drop 0).take 2) = true := rfl
theorem c0_Spot (x : SpotD) : ((avSpot x).cell 0).toInt = x.1 := rfl
theorem p0_Spot (x : SpotD) : CT.shape (.int .i64) ((avSpot x).cell 0) = true := rfl
theorem c1_Spot (x : SpotD) : ((avSpot x).cell 1).toStr = x.2 := rfl
theorem p1_Spot (x : SpotD) : CT.shape (.str) ((avSpot x).cell 1) = true := rfl
def szSpot (x : SpotD) : Nat := x.2.size
def wfSpot (x : SpotD) : Prop := x.2.size ≤ maxLen
def totSpot : List SpotD → Nat
  | [] => 0
  | x :: r => szSpot x + totSpot r
theorem totSpot_mem : ∀ {xs : List SpotD} {x : SpotD}, x ∈ xs → szSpot x ≤ totSpot xs
  | [], x, h => by simp at h
  | y :: r, x, h => by
    simp only [List.mem_cons] at h
    simp only [totSpot]
    rcases h with rfl | h
    · omega
    · have := totSpot_mem h; omega
theorem tzSpot (x : SpotD) (l : Int) (hw : wfSpot x) (h0 : 0 ≤ l) (h1 : l ≤ 1048576) : Fl_szSpot x.1 x.2 l = some (szR l (szSpot x)) := by
  simp only [wfSpot, maxLen] at hw
  refine ul_szSpot _ _  _ ?_
  unfold szR szSpot
  have e0 : IntKind.wrap .i64 (l - (x.2.size : Int)) = l - (x.2.size : Int) := wrap64 (by omega) (by omega)
  by_cases g0 : l - (x.2.size : Int) < 0
  · have q : l < ((x.2.size : Nat) : Int) := by omega
    simp only [e0, g0, q, decide_true, cond_true, if_true]
  have q : ¬ l < ((x.2.size : Nat) : Int) := by omega
  simp only [e0, g0, q, decide_false, cond_false, if_false]
theorem tzSpotS_0 : ∀ (xs pre : List SpotD) (l : Int), (pre ++ xs).length ≤ 1048576 → (∀ x ∈ xs, wfSpot x) → 0 ≤ l → l ≤ 1048576 → Ll_szSpotS_0 ((pre ++ xs).map avSpot) l (pre.length : Int) = some (if l < (totSpot xs : Int) then .inl (-1) else .inr (l - (totSpot xs : Int)))
  | [], pre, l, hl, hx, h0, h1 => by
    refine ll_szSpotS_0 _ _ _ ?_
    have : ¬ l < 0 := by omega
    simp [totSpot, this]
  | x :: xs, pre, l, hl, hx, h0, h1 => by
    have hm := mid_len pre xs x
    refine ll_szSpotS_0 _ _ _ ?_
    simp only [Int.toNat_natCast, List.length_map, dlt_true hm, d0_true, Bool.and_self, cond_true, map_mid, sh_Spot, c0_Spot, c1_Spot, tzSpot x l (hx x (by simp)) h0 h1, Option.bind_some, wrap_succ hm (by omega), totSpot]
    unfold szR
    by_cases g : l < (szSpot x : Int)
    · have : l < ((szSpot x + totSpot xs : Nat) : Int) := by omega
      simp only [g, this, if_true]; rfl
    · have ih := tzSpotS_0 xs (pre ++ [x]) (l - (szSpot x : Int)) (by simpa using hl) (fun y hy => hx y (by simp [hy])) (by omega) (by omega)
      simp only [List.append_assoc, List.cons_append, List.nil_append, show ∀ x : SpotD, (pre ++ [x]).length = pre.length + 1 from fun x => by simp] at ih
      have h3 : ¬ (l - (szSpot x : Int) < 0) := by omega
      simp only [g, if_false, h3, decide_false, cond_false, ih]
      by_cases g2 : l - (szSpot x : Int) < (totSpot xs : Int)
      · have : l < ((szSpot x + totSpot xs : Nat) : Int) := by omega
        simp only [g2, this, if_true]
      · have : ¬ l < ((szSpot x + totSpot xs : Nat) : Int) := by omega
        simp only [g2, this, if_false, Option.some.injEq, Sum.inr.injEq]
        omega
theorem tzSpotS (xs : List SpotD) (l : Int) (hl : xs.length ≤ maxLen) (hx : ∀ x ∈ xs, wfSpot x) (h0 : 0 ≤ l) (h1 : l ≤ 1048576) : Fl_szSpotS (xs.map avSpot) l = some (szR l (xs.length + totSpot xs)) := by
  unfold maxLen at hl
  refine ul_szSpotS _ _ ?_
  have e1 : IntKind.wrap .i64 (l - (xs.length : Int)) = l - (xs.length : Int) := wrap64 (by omega) (by omega)
  simp only [List.length_map, e1]
  by_cases g1 : l - (xs.length : Int) < 0
  · have : l < ((xs.length + totSpot xs : Nat) : Int) := by omega
    simp only [szR, g1, this, decide_true, cond_true, if_true]
  have := tzSpotS_0 xs [] (l - (xs.length : Int)) (by simpa using (by omega : xs.length ≤ 1048576)) hx (by omega) (by omega)
  simp only [List.nil_append, List.length_nil, Int.natCast_zero] at this
  rw [this]
  simp only [g1, decide_false, cond_false, szR]
  by_cases g2 : l - (xs.length : Int) < (totSpot xs : Int)
  · have : l < ((xs.length + totSpot xs : Nat) : Int) := by omega
    simp only [g2, this, if_true]; rfl
  · have : ¬ l < ((xs.length + totSpot xs : Nat) : Int) := by omega
    simp only [g2, this, if_false, Option.bind_some, Sum.elim_inr, Option.some.injEq]
    omega
theorem toSpot (x0 : Int) (x1 : ByteArray) : Fl_toSpot x0 x1 = some (x0, x1) := ul_toSpot _ _  rfl
theorem toSpotS_0 (xs : List SpotD) (hl : xs.length ≤ 1048576) : ∀ n i : Nat, i + n = xs.length → Ll_toSpotS_0 (xs.map avSpot) (i : Int) (filled avSpot (avSpot (0, ByteArray.empty)) xs i) = some (xs.map avSpot)
  | 0, i, h => by
    refine ll_toSpotS_0 _ _ _ ?_
    obtain rfl : i = xs.length := by omega
    simp [filled_all]
  | n + 1, i, h => by
    have hi : i < xs.length := by omega
    refine ll_toSpotS_0 _ _ _ ?_
    have e2 : aggQ (avSpot (0, ByteArray.empty)) = true := rfl
    have e4 : Nat.ble 2 (avSpot (0, ByteArray.empty)).cells.length = true := rfl
    have e3 : AVal.agg (setMany (avSpot (0, ByteArray.empty)).cells 0 [.int .i64 xs[i].1, .str xs[i].2]) = avSpot xs[i] := rfl
    have ih := toSpotS_0 xs hl n (i + 1) (by omega)
    simp only [List.length_map, Int.toNat_natCast, dlt_true hi, d0_true, Bool.and_self, cond_true, getD_map avSpot hi, sh_Spot, c0_Spot, c1_Spot, toSpot, Option.bind_some, filled_len avSpot (avSpot (0, ByteArray.empty)) (Nat.le_of_lt hi), filled_get avSpot (avSpot (0, ByteArray.empty)) hi, blt_true hi, e2, e4, wrap_succ hi (by omega), e3, filled_set avSpot (avSpot (0, ByteArray.empty)) hi, bnd_eq, ih]
theorem toSpotS (xs : List SpotD) (hl : xs.length ≤ 1048576) : Fl_toSpotS (xs.map avSpot) = some (xs.map avSpot) := by
  refine ul_toSpotS _ ?_
  have e := toSpotS_0 xs hl xs.length 0 (by omega)
  rw [filled_zero] at e
  have h0 : (0 : Int) ≤ (xs.length : Int) := by omega
  have hc : ∀ b : Nat, b ≤ 1000 → capB xs.length b = true := fun b hb => capB_le (Nat.le_trans (Nat.mul_le_mul hl hb) (by omega))
  simp only [Int.natCast_zero] at e
  simp only [List.length_map, Int.toNat_natCast, h0, Int.le_refl, hc 24 (by omega), decide_true, Bool.and_self, cond_true, bnd_eq]
  rw [show (.agg [.int .i64 0, .str ByteArray.empty] : AVal) = avSpot (0, ByteArray.empty) from rfl, e]; rfl
theorem eqSpot (x0 : Int) (x1 : ByteArray) : Fl_eqSpot x0 x1 x0 x1 = some true := ul_eqSpot _ _ _ _  (by simp)
theorem eqSpotS_0 (xs : List SpotD) (hl : xs.length ≤ 1048576) : ∀ n i : Nat, i + n = xs.length → Ll_eqSpotS_0 (xs.map avSpot) (xs.map avSpot) (i : Int) = some (.inr ())
  | 0, i, h => by
    refine ll_eqSpotS_0 _ _ _ ?_
    simp [show ¬ i < xs.length by omega]
  | n + 1, i, h => by
    have hi : i < xs.length := by omega
    refine ll_eqSpotS_0 _ _ _ ?_
    simp only [List.length_map, Int.toNat_natCast, dlt_true hi, d0_true, Bool.and_self, cond_true, cond_false, getD_map avSpot hi, sh_Spot, c0_Spot, c1_Spot, eqSpot, Option.bind_some, Bool.not_true, wrap_succ hi (by omega), eqSpotS_0 xs hl n (i + 1) (by omega)]
theorem eqSpotS (xs : List SpotD) (hl : xs.length ≤ 1048576) : Fl_eqSpotS (xs.map avSpot) (xs.map avSpot) = some true := by
  refine ul_eqSpotS _ _ ?_
  have e := eqSpotS_0 xs hl xs.length 0 (by omega)
  simp only [Int.natCast_zero] at e
  simp [e]
theorem fitSpot {y : AVal} (h : Fits ctx ty_laws_Spot y) : ∃ x : SpotD, y = avSpot x ∧ wfSpot x := by
  obtain ⟨fs, rfl, g⟩ := h.struct' (us := [ty_int, ty_string]) (by kernel_rfl)
  obtain ⟨v0, r, rfl, g0, g⟩ := g.cons'
  obtain ⟨v1, r, rfl, g1, g⟩ := g.cons'
  obtain rfl := g.nil'
  obtain ⟨a0, rfl, _⟩ := g0.int' (k := .i64) (by kernel_rfl)
  obtain ⟨a1, rfl, w1⟩ := g1.str' (by kernel_rfl)
  exact ⟨(a0, a1), rfl, w1⟩
theorem fitSpotS : ∀ {xs : List AVal}, (∀ y ∈ xs, Fits ctx ty_laws_Spot y) → ∃ ns : List SpotD, xs = ns.map avSpot ∧ ∀ x ∈ ns, wfSpot x
  | [], _ => ⟨[], rfl, by simp⟩
  | y :: ys, h => by
    obtain ⟨x, rfl, hx⟩ := fitSpot (h y (by simp))
    obtain ⟨ns, rfl, hn⟩ := fitSpotS (xs := ys) fun z hz => h z (by simp [hz])
    exact ⟨x :: ns, rfl, fun z hz => by rcases List.mem_cons.1 hz with rfl | hz; exact hx; exact hn z hz⟩
end Go.Proofs.Ytfniojpjlachoaa
