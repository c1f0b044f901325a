/- Plain data of the program, and what the helpers of the laws do to it: sizes, copies, equality; where it is not too large. -/
import Derived.Test.YtmbnloccmnclnaaBb
namespace Go.Proofs.Ytmbnloccmnclnaa
open Go.VK AVal
abbrev WordD := ByteArray × ByteArray × Int × Int × Bool × ByteArray
def avWord (x : WordD) : AVal := .agg [.str x.1, .str x.2.1, .int .i64 x.2.2.1, .int .i64 x.2.2.2.1, .bool x.2.2.2.2.1, .str x.2.2.2.2.2]
theorem asRo_Word (x : WordD) : asRo (avWord x) = avWord x := by simp only [avWord, asRo, asRoL]
theorem noRo_Word (x : WordD) : noRo (avWord x) = true := by simp only [avWord, noRo, noRoL, Bool.and_self]
theorem sh_Word (x : WordD) : shapes [.str, .str, .int .i64, .int .i64, .bool, .str] (((avWord x).cells.drop 0).take 6) = true := rfl
theorem c0_Word (x : WordD) : ((avWord x).cell 0).toStr = x.1 := rfl
theorem p0_Word (x : WordD) : CT.shape (.str) ((avWord x).cell 0) = true := rfl
theorem c1_Word (x : WordD) : ((avWord x).cell 1).toStr = x.2.1 := rfl
theorem p1_Word (x : WordD) : CT.shape (.str) ((avWord x).cell 1) = true := rfl
theorem c2_Word (x : WordD) : ((avWord x).cell 2).toInt = x.2.2.1 := rfl
theorem p2_Word (x : WordD) : CT.shape (.int .i64) ((avWord x).cell 2) = true := rfl
theorem c3_Word (x : WordD) : ((avWord x).cell 3).toInt = x.2.2.2.1 := rfl
theorem p3_Word (x : WordD) : CT.shape (.int .i64) ((avWord x).cell 3) = true := rfl
theorem c4_Word (x : WordD) : ((avWord x).cell 4).toBool = x.2.2.2.2.1 := rfl
theorem p4_Word (x : WordD) : CT.shape (.bool) ((avWord x).cell 4) = true := rfl
theorem c5_Word (x : WordD) : ((avWord x).cell 5).toStr = x.2.2.2.2.2 := rfl
theorem p5_Word (x : WordD) : CT.shape (.str) ((avWord x).cell 5) = true := rfl
def szWord (x : WordD) : Nat := x.1.size + x.2.1.size + x.2.2.2.2.2.size
def wfWord (x : WordD) : Prop := (x.1.size ≤ maxLen) ∧ (x.2.1.size ≤ maxLen) ∧ (x.2.2.2.2.2.size ≤ maxLen)
theorem tzWord (x : WordD) (l : Int) (hw : wfWord x) (h0 : 0 ≤ l) (h1 : l ≤ 1048576) : Fl_szWord x.1 x.2.1 x.2.2.1 x.2.2.2.1 x.2.2.2.2.1 x.2.2.2.2.2 l = some (szR l (szWord x)) := by
  unfold wfWord at hw
  unfold szWord
  refine ul_szWord _ _ _ _ _ _ _ ?_
  obtain ⟨w0, w1, w2⟩ := hw
  have b0 : 0 ≤ l ∧ l ≤ 1048576 := by exact ⟨h0, h1⟩
  obtain ⟨e0, e0'⟩ := szR_len b0.1 b0.2 w0
  by_cases g0 : szR l (x.1.size) < 0
  · simp only [e0, g0, decide_true, cond_true]
    rw [show szR l (x.1.size + x.2.1.size + x.2.2.2.2.2.size) = -1 from by rw [show x.1.size + x.2.1.size + x.2.2.2.2.2.size = (x.1.size) + (x.2.1.size + x.2.2.2.2.2.size) by omega]; exact szR_over g0 h0]
  have b1 : 0 ≤ szR l (x.1.size) ∧ szR l (x.1.size) ≤ 1048576 := by have := szR_le _ _ g0; omega
  obtain ⟨e1, e1'⟩ := szR_len b1.1 b1.2 w1
  rw [szR_step g0] at e1 e1'
  by_cases g1 : szR l (x.1.size + x.2.1.size) < 0
  · simp only [e0, g0, decide_false, cond_false, e0' g0, e1, g1, decide_true, cond_true]
    rw [show szR l (x.1.size + x.2.1.size + x.2.2.2.2.2.size) = -1 from by rw [show x.1.size + x.2.1.size + x.2.2.2.2.2.size = (x.1.size + x.2.1.size) + (x.2.2.2.2.2.size) by omega]; exact szR_over g1 h0]
  have b2 : 0 ≤ szR l (x.1.size + x.2.1.size) ∧ szR l (x.1.size + x.2.1.size) ≤ 1048576 := by have := szR_le _ _ g1; omega
  obtain ⟨e2, e2'⟩ := szR_len b2.1 b2.2 w2
  rw [szR_step g1] at e2 e2'
  by_cases g2 : szR l (x.1.size + x.2.1.size + x.2.2.2.2.2.size) < 0
  · simp only [e0, g0, decide_false, cond_false, e0' g0, e1, g1, decide_false, cond_false, e1' g1, e2, g2, decide_true, cond_true]
    rw [szR_m1 g2 h0]
  simp only [e0, g0, decide_false, cond_false, e0' g0, e1, g1, e1' g1, e2, g2, e2' g2]
theorem toWord (x : WordD) : Fl_toWord x.1 x.2.1 x.2.2.1 x.2.2.2.1 x.2.2.2.2.1 x.2.2.2.2.2 = some (x.1, x.2.1, x.2.2.1, x.2.2.2.1, x.2.2.2.2.1, x.2.2.2.2.2) := ul_toWord _ _ _ _ _ _ rfl
theorem eqWord (x : WordD) : Fl_eqWord x.1 x.2.1 x.2.2.1 x.2.2.2.1 x.2.2.2.2.1 x.2.2.2.2.2 x.1 x.2.1 x.2.2.1 x.2.2.2.1 x.2.2.2.2.1 x.2.2.2.2.2 = some true := ul_eqWord _ _ _ _ _ _ _ _ _ _ _ _ (by simp only [decide_true, beq_self_eq_true, Bool.not_true, cond_false])
theorem fitWord {y : AVal} (h : Fits ctx ty_laws_Word y) : ∃ x : WordD, y = avWord x ∧ wfWord x := by
  obtain ⟨fs, rfl, g⟩ := h.struct' (us := [ty_string, ty_string, ty_int, ty_int, ty_bool, ty_string]) (by kernel_rfl)
  obtain ⟨v0, r, rfl, g0, g⟩ := g.cons'
  obtain ⟨v1, r, rfl, g1, g⟩ := g.cons'
  obtain ⟨v2, r, rfl, g2, g⟩ := g.cons'
  obtain ⟨v3, r, rfl, g3, g⟩ := g.cons'
  obtain ⟨v4, r, rfl, g4, g⟩ := g.cons'
  obtain ⟨v5, r, rfl, g5, g⟩ := g.cons'
  obtain rfl := g.nil'
  obtain ⟨a0, rfl, w0⟩ := g0.str' (by kernel_rfl)
  obtain ⟨a1, rfl, w1⟩ := g1.str' (by kernel_rfl)
  obtain ⟨a2, rfl, _⟩ := g2.int' (k := .i64) (by kernel_rfl)
  obtain ⟨a3, rfl, _⟩ := g3.int' (k := .i64) (by kernel_rfl)
  obtain ⟨a4, rfl⟩ := g4.bool' (by kernel_rfl)
  obtain ⟨a5, rfl, w5⟩ := g5.str' (by kernel_rfl)
  exact ⟨(a0, a1, a2, a3, a4, a5), rfl, ⟨w0, w1, w5⟩⟩
def totWord : List WordD → Nat
  | [] => 0
  | x :: r => szWord x + totWord r
theorem totWord_mem : ∀ {xs : List WordD} {x : WordD}, x ∈ xs → szWord x ≤ totWord xs
  | [], x, h => by simp at h
  | y :: r, x, h => by
    simp only [List.mem_cons] at h
    simp only [totWord]
    rcases h with rfl | h
    · omega
    · have := totWord_mem h; omega
def szWordS (xs : List WordD) : Nat := xs.length + totWord xs
def avWordS (xs : List WordD) : AVal := .ro false 6 (xs.map avWord)
def aoWordS (xs : List WordD) : AVal := .own 6 (xs.map avWord)
theorem asRo_WordS (xs : List WordD) : asRo (aoWordS xs) = avWordS xs := by simp only [aoWordS, avWordS, asRo, asRoL_map2 asRo_Word]
theorem noRo_WordS (xs : List WordD) : noRo (aoWordS xs) = true := by simp only [aoWordS, noRo, noRoL_map noRo_Word]
theorem tzWordS_0 : ∀ (xs pre : List WordD) (l : Int), (pre ++ xs).length ≤ 1048576 → (∀ y ∈ xs, wfWord y) → 0 ≤ l → l ≤ 1048576 → Ll_szWordS_0 ((pre ++ xs).map avWord) l (pre.length : Int) = some (if szR l (totWord xs) < 0 then .inl (-1) else .inr (szR l (totWord xs)))
  | [], pre, l, hl, hx, h0, h1 => by
    refine ll_szWordS_0 _ _ _ ?_
    have : ¬ l < 0 := by omega
    simp [totWord, szR_zero h0, this]
  | x :: xs, pre, l, hl, hx, h0, h1 => by
    have hm := mid_len pre xs x
    rw [show totWord (x :: xs) = szWord x + totWord xs from rfl]
    refine ll_szWordS_0 _ _ _ ?_
    simp only [Int.toNat_natCast, List.length_map, dlt_true hm, d0_true, Bool.and_self, cond_true, map_mid, sh_Word, c0_Word, c1_Word, c2_Word, c3_Word, c4_Word, c5_Word, tzWord x l (hx x (by simp)) h0 h1, Option.bind_some, wrap_succ hm (by omega)]
    by_cases g : szR l (szWord x) < 0
    · simp only [g, szR_over g h0, decide_true, cond_true, show ((-1 : Int) < 0) from by omega, if_true]
    · have b := szR_le _ _ g
      have ih := tzWordS_0 xs (pre ++ [x]) (szR l (szWord x)) (by simpa using hl) (fun y hy => hx y (by simp [hy])) b.1 (by omega)
      simp only [List.append_assoc, List.cons_append, List.nil_append, show ∀ x : WordD, (pre ++ [x]).length = pre.length + 1 from fun x => by simp] at ih
      rw [szR_step g] at ih
      by_cases g2 : szR l (szWord x + totWord xs) < 0
      · rw [if_pos g2] at ih ⊢
        simp only [g, decide_false, cond_false, ih]
      · rw [if_neg g2] at ih ⊢
        simp only [g, decide_false, cond_false, ih]
theorem tzWordS (xs : List WordD) (l : Int) (hw : xs.length ≤ maxLen ∧ ∀ y ∈ xs, wfWord y) (h0 : 0 ≤ l) (h1 : l ≤ 1048576) : Fl_szWordS (xs.map avWord) l = some (szR l (szWordS xs)) := by
  obtain ⟨q1, q2⟩ := szR_len h0 h1 hw.1
  unfold szWordS
  refine ul_szWordS _ _ ?_
  simp only [List.length_map, q1]
  by_cases g : szR l xs.length < 0
  · simp only [g, szR_over g h0, decide_true, cond_true]
  · have b := szR_le _ _ g
    have hn := szR_nn g
    have e := tzWordS_0 xs [] (szR l xs.length) (by simpa using (by omega : xs.length ≤ 1048576)) hw.2 b.1 (by omega)
    simp only [List.nil_append, List.length_nil, Int.natCast_zero, szR_step g] at e
    by_cases g2 : szR l (xs.length + totWord xs) < 0
    · rw [if_pos g2] at e
      simp only [g, decide_false, cond_false, q2 g, e, Option.bind_some, Sum.elim_inl, szR_m1 g2 h0]
    · rw [if_neg g2] at e
      simp only [g, decide_false, cond_false, q2 g, e, Option.bind_some, Sum.elim_inr]
theorem toWordS_0 (xs : List WordD) (hb : szWordS xs ≤ 1048576) : ∀ n i : Nat, i + n = xs.length → Ll_toWordS_0 (xs.map avWord) (i : Int) (filled avWord (avWord (ByteArray.empty, ByteArray.empty, 0, 0, false, ByteArray.empty)) xs i) = some (xs.map avWord)
  | 0, i, h => by
    refine ll_toWordS_0 _ _ _ ?_
    obtain rfl : i = xs.length := by omega
    simp [filled_all]
  | n + 1, i, h => by
    have hl : xs.length ≤ 1048576 := by unfold szWordS at hb; omega
    have hi : i < xs.length := by omega
    have ih := toWordS_0 xs hb n (i + 1) (by omega)
    have e2 : aggQ (avWord (ByteArray.empty, ByteArray.empty, 0, 0, false, ByteArray.empty)) = true := rfl
    have e4 : Nat.ble 6 (avWord (ByteArray.empty, ByteArray.empty, 0, 0, false, ByteArray.empty)).cells.length = true := rfl
    have e3 : AVal.agg (setMany (avWord (ByteArray.empty, ByteArray.empty, 0, 0, false, ByteArray.empty)).cells 0 [.str xs[i].1, .str xs[i].2.1, .int .i64 xs[i].2.2.1, .int .i64 xs[i].2.2.2.1, .bool xs[i].2.2.2.2.1, .str xs[i].2.2.2.2.2]) = avWord xs[i] := rfl
    refine ll_toWordS_0 _ _ _ ?_
    simp only [List.length_map, Int.toNat_natCast, dlt_true hi, d0_true, Bool.and_self, cond_true, getD_map avWord hi, filled_len avWord (avWord (ByteArray.empty, ByteArray.empty, 0, 0, false, ByteArray.empty)) (Nat.le_of_lt hi), filled_get avWord (avWord (ByteArray.empty, ByteArray.empty, 0, 0, false, ByteArray.empty)) hi, blt_true hi, wrap_succ hi (by omega), sh_Word, c0_Word, c1_Word, c2_Word, c3_Word, c4_Word, c5_Word, toWord, Option.bind_some, e2, e4, e3, bnd_eq, filled_set avWord (avWord (ByteArray.empty, ByteArray.empty, 0, 0, false, ByteArray.empty)) hi, ih]
theorem toWordS (xs : List WordD) (hb : szWordS xs ≤ 1048576) : Fl_toWordS (xs.map avWord) = some (xs.map avWord) := by
  have hl : xs.length ≤ 1048576 := by unfold szWordS at hb; omega
  refine ul_toWordS _ ?_
  have e := toWordS_0 xs hb xs.length 0 (by omega)
  rw [filled_zero] at e
  have h0 : (0 : Int) ≤ (xs.length : Int) := by omega
  simp only [Int.natCast_zero] at e
  simp only [List.length_map, Int.toNat_natCast, h0, Int.le_refl, capB_8 (b := 72) hl (by omega), decide_true, Bool.and_self, cond_true, bnd_eq]
  rw [show (.agg [.str ByteArray.empty, .str ByteArray.empty, .int .i64 0, .int .i64 0, .bool false, .str ByteArray.empty] : AVal) = (avWord (ByteArray.empty, ByteArray.empty, 0, 0, false, ByteArray.empty)) from rfl, e]; rfl
theorem eqWordS_0 (xs : List WordD) (hb : szWordS xs ≤ 1048576) : ∀ n i : Nat, i + n = xs.length → Ll_eqWordS_0 (xs.map avWord) (xs.map avWord) (i : Int) = some (.inr ())
  | 0, i, h => by
    refine ll_eqWordS_0 _ _ _ ?_
    simp [show ¬ i < xs.length by omega]
  | n + 1, i, h => by
    have hl : xs.length ≤ 1048576 := by unfold szWordS at hb; omega
    have hi : i < xs.length := by omega
    have ih := eqWordS_0 xs hb n (i + 1) (by omega)
    refine ll_eqWordS_0 _ _ _ ?_
    simp only [List.length_map, Int.toNat_natCast, dlt_true hi, d0_true, Bool.and_self, cond_true, cond_false, getD_map avWord hi, wrap_succ hi (by omega), sh_Word, c0_Word, c1_Word, c2_Word, c3_Word, c4_Word, c5_Word, eqWord, Option.bind_some, Bool.not_true, ih]
theorem eqWordS (xs : List WordD) (hb : szWordS xs ≤ 1048576) : Fl_eqWordS (xs.map avWord) (xs.map avWord) = some true := by
  refine ul_eqWordS _ _ ?_
  have e := eqWordS_0 xs hb xs.length 0 (by omega)
  simp only [Int.natCast_zero] at e
  simp [e]
theorem fitWordS : ∀ {xs : List AVal}, (∀ y ∈ xs, Fits ctx ty_laws_Word y) → ∃ ns : List WordD, xs = ns.map avWord ∧ ∀ x ∈ ns, wfWord x
  | [], _ => ⟨[], rfl, by simp⟩
  | y :: ys, h => by
    obtain ⟨x, rfl, hx⟩ := fitWord (h y (by simp))
    obtain ⟨ns, rfl, hn⟩ := fitWordS (xs := ys) fun z hz => h z (by simp [hz])
    exact ⟨x :: ns, rfl, fun z hz => by rcases List.mem_cons.1 hz with rfl | hz; exact hx; exact hn z hz⟩
end Go.Proofs.Ytmbnloccmnclnaa
