/- Plain data of the program, and what the helpers of the laws do to it: sizes, copies, equality; where it is not too large. -/
import Derived.Test.YtmbnloccmnclnaaBw
namespace Go.Proofs.Ytmbnloccmnclnaa
open Go.VK AVal
abbrev TokenD := ByteArray × ByteArray × Bool
def avToken (x : TokenD) : AVal := .agg [.str x.1, .str x.2.1, .bool x.2.2]
theorem asRo_Token (x : TokenD) : asRo (avToken x) = avToken x := by simp only [avToken, asRo, asRoL]
theorem noRo_Token (x : TokenD) : noRo (avToken x) = true := by simp only [avToken, noRo, noRoL, Bool.and_self]
theorem sh_Token (x : TokenD) : shapes [.str, .str, .bool] (((avToken x).cells.drop 0).take 3) = true := rfl
theorem c0_Token (x : TokenD) : ((avToken x).cell 0).toStr = x.1 := rfl
theorem p0_Token (x : TokenD) : CT.shape (.str) ((avToken x).cell 0) = true := rfl
theorem c1_Token (x : TokenD) : ((avToken x).cell 1).toStr = x.2.1 := rfl
theorem p1_Token (x : TokenD) : CT.shape (.str) ((avToken x).cell 1) = true := rfl
theorem c2_Token (x : TokenD) : ((avToken x).cell 2).toBool = x.2.2 := rfl
theorem p2_Token (x : TokenD) : CT.shape (.bool) ((avToken x).cell 2) = true := rfl
def szToken (x : TokenD) : Nat := x.1.size + x.2.1.size
def wfToken (x : TokenD) : Prop := (x.1.size ≤ maxLen) ∧ (x.2.1.size ≤ maxLen)
theorem tzToken (x : TokenD) (l : Int) (hw : wfToken x) (h0 : 0 ≤ l) (h1 : l ≤ 1048576) : Fl_szToken x.1 x.2.1 x.2.2 l = some (szR l (szToken x)) := by
  unfold wfToken at hw
  unfold szToken
  refine ul_szToken _ _ _ _ ?_
  obtain ⟨w0, w1⟩ := hw
  have b0 : 0 ≤ l ∧ l ≤ 1048576 := by exact ⟨h0, h1⟩
  obtain ⟨e0, e0'⟩ := szR_len b0.1 b0.2 w0
  by_cases g0 : szR l (x.1.size) < 0
  · simp only [e0, g0, decide_true, cond_true]
    rw [show szR l (x.1.size + x.2.1.size) = -1 from by rw [show x.1.size + x.2.1.size = (x.1.size) + (x.2.1.size) by omega]; exact szR_over g0 h0]
  have b1 : 0 ≤ szR l (x.1.size) ∧ szR l (x.1.size) ≤ 1048576 := by have := szR_le _ _ g0; omega
  obtain ⟨e1, e1'⟩ := szR_len b1.1 b1.2 w1
  rw [szR_step g0] at e1 e1'
  by_cases g1 : szR l (x.1.size + x.2.1.size) < 0
  · simp only [e0, g0, decide_false, cond_false, e0' g0, e1, g1, decide_true, cond_true]
    rw [szR_m1 g1 h0]
  simp only [e0, g0, decide_false, cond_false, e0' g0, e1, g1, e1' g1]
theorem toToken (x : TokenD) : Fl_toToken x.1 x.2.1 x.2.2 = some (x.1, x.2.1, x.2.2) := ul_toToken _ _ _ rfl
theorem eqToken (x : TokenD) : Fl_eqToken x.1 x.2.1 x.2.2 x.1 x.2.1 x.2.2 = some true := ul_eqToken _ _ _ _ _ _ (by simp only [decide_true, beq_self_eq_true, Bool.not_true, cond_false])
theorem fitToken {y : AVal} (h : Fits ctx ty_laws_Token y) : ∃ x : TokenD, y = avToken x ∧ wfToken x := by
  obtain ⟨fs, rfl, g⟩ := h.struct' (us := [ty_string, ty_string, ty_bool]) (by kernel_rfl)
  obtain ⟨v0, r, rfl, g0, g⟩ := g.cons'
  obtain ⟨v1, r, rfl, g1, g⟩ := g.cons'
  obtain ⟨v2, r, rfl, g2, g⟩ := g.cons'
  obtain rfl := g.nil'
  obtain ⟨a0, rfl, w0⟩ := g0.str' (by kernel_rfl)
  obtain ⟨a1, rfl, w1⟩ := g1.str' (by kernel_rfl)
  obtain ⟨a2, rfl⟩ := g2.bool' (by kernel_rfl)
  exact ⟨(a0, a1, a2), rfl, ⟨w0, w1⟩⟩
def totToken : List TokenD → Nat
  | [] => 0
  | x :: r => szToken x + totToken r
theorem totToken_mem : ∀ {xs : List TokenD} {x : TokenD}, x ∈ xs → szToken x ≤ totToken xs
  | [], x, h => by simp at h
  | y :: r, x, h => by
    simp only [List.mem_cons] at h
    simp only [totToken]
    rcases h with rfl | h
    · omega
    · have := totToken_mem h; omega
def szTokenS (xs : List TokenD) : Nat := xs.length + totToken xs
def avTokenS (xs : List TokenD) : AVal := .ro false 3 (xs.map avToken)
def aoTokenS (xs : List TokenD) : AVal := .own 3 (xs.map avToken)
theorem asRo_TokenS (xs : List TokenD) : asRo (aoTokenS xs) = avTokenS xs := by simp only [aoTokenS, avTokenS, asRo, asRoL_map2 asRo_Token]
theorem noRo_TokenS (xs : List TokenD) : noRo (aoTokenS xs) = true := by simp only [aoTokenS, noRo, noRoL_map noRo_Token]
theorem tzTokenS_0 : ∀ (xs pre : List TokenD) (l : Int), (pre ++ xs).length ≤ 1048576 → (∀ y ∈ xs, wfToken y) → 0 ≤ l → l ≤ 1048576 → Ll_szTokenS_0 ((pre ++ xs).map avToken) l (pre.length : Int) = some (if szR l (totToken xs) < 0 then .inl (-1) else .inr (szR l (totToken xs)))
  | [], pre, l, hl, hx, h0, h1 => by
    refine ll_szTokenS_0 _ _ _ ?_
    have : ¬ l < 0 := by omega
    simp [totToken, szR_zero h0, this]
  | x :: xs, pre, l, hl, hx, h0, h1 => by
    have hm := mid_len pre xs x
    rw [show totToken (x :: xs) = szToken x + totToken xs from rfl]
    refine ll_szTokenS_0 _ _ _ ?_
    simp only [Int.toNat_natCast, List.length_map, dlt_true hm, d0_true, Bool.and_self, cond_true, map_mid, sh_Token, c0_Token, c1_Token, c2_Token, tzToken x l (hx x (by simp)) h0 h1, Option.bind_some, wrap_succ hm (by omega)]
    by_cases g : szR l (szToken x) < 0
    · simp only [g, szR_over g h0, decide_true, cond_true, show ((-1 : Int) < 0) from by omega, if_true]
    · have b := szR_le _ _ g
      have ih := tzTokenS_0 xs (pre ++ [x]) (szR l (szToken x)) (by simpa using hl) (fun y hy => hx y (by simp [hy])) b.1 (by omega)
      simp only [List.append_assoc, List.cons_append, List.nil_append, show ∀ x : TokenD, (pre ++ [x]).length = pre.length + 1 from fun x => by simp] at ih
      rw [szR_step g] at ih
      by_cases g2 : szR l (szToken x + totToken xs) < 0
      · rw [if_pos g2] at ih ⊢
        simp only [g, decide_false, cond_false, ih]
      · rw [if_neg g2] at ih ⊢
        simp only [g, decide_false, cond_false, ih]
theorem tzTokenS (xs : List TokenD) (l : Int) (hw : xs.length ≤ maxLen ∧ ∀ y ∈ xs, wfToken y) (h0 : 0 ≤ l) (h1 : l ≤ 1048576) : Fl_szTokenS (xs.map avToken) l = some (szR l (szTokenS xs)) := by
  obtain ⟨q1, q2⟩ := szR_len h0 h1 hw.1
  unfold szTokenS
  refine ul_szTokenS _ _ ?_
  simp only [List.length_map, q1]
  by_cases g : szR l xs.length < 0
  · simp only [g, szR_over g h0, decide_true, cond_true]
  · have b := szR_le _ _ g
    have hn := szR_nn g
    have e := tzTokenS_0 xs [] (szR l xs.length) (by simpa using (by omega : xs.length ≤ 1048576)) hw.2 b.1 (by omega)
    simp only [List.nil_append, List.length_nil, Int.natCast_zero, szR_step g] at e
    by_cases g2 : szR l (xs.length + totToken xs) < 0
    · rw [if_pos g2] at e
      simp only [g, decide_false, cond_false, q2 g, e, Option.bind_some, Sum.elim_inl, szR_m1 g2 h0]
    · rw [if_neg g2] at e
      simp only [g, decide_false, cond_false, q2 g, e, Option.bind_some, Sum.elim_inr]
theorem toTokenS_0 (xs : List TokenD) (hb : szTokenS xs ≤ 1048576) : ∀ n i : Nat, i + n = xs.length → Ll_toTokenS_0 (xs.map avToken) (i : Int) (filled avToken (avToken (ByteArray.empty, ByteArray.empty, false)) xs i) = some (xs.map avToken)
  | 0, i, h => by
    refine ll_toTokenS_0 _ _ _ ?_
    obtain rfl : i = xs.length := by omega
    simp [filled_all]
  | n + 1, i, h => by
    have hl : xs.length ≤ 1048576 := by unfold szTokenS at hb; omega
    have hi : i < xs.length := by omega
    have ih := toTokenS_0 xs hb n (i + 1) (by omega)
    have e2 : aggQ (avToken (ByteArray.empty, ByteArray.empty, false)) = true := rfl
    have e4 : Nat.ble 3 (avToken (ByteArray.empty, ByteArray.empty, false)).cells.length = true := rfl
    have e3 : AVal.agg (setMany (avToken (ByteArray.empty, ByteArray.empty, false)).cells 0 [.str xs[i].1, .str xs[i].2.1, .bool xs[i].2.2]) = avToken xs[i] := rfl
    refine ll_toTokenS_0 _ _ _ ?_
    simp only [List.length_map, Int.toNat_natCast, dlt_true hi, d0_true, Bool.and_self, cond_true, getD_map avToken hi, filled_len avToken (avToken (ByteArray.empty, ByteArray.empty, false)) (Nat.le_of_lt hi), filled_get avToken (avToken (ByteArray.empty, ByteArray.empty, false)) hi, blt_true hi, wrap_succ hi (by omega), sh_Token, c0_Token, c1_Token, c2_Token, toToken, Option.bind_some, e2, e4, e3, bnd_eq, filled_set avToken (avToken (ByteArray.empty, ByteArray.empty, false)) hi, ih]
theorem toTokenS (xs : List TokenD) (hb : szTokenS xs ≤ 1048576) : Fl_toTokenS (xs.map avToken) = some (xs.map avToken) := by
  have hl : xs.length ≤ 1048576 := by unfold szTokenS at hb; omega
  refine ul_toTokenS _ ?_
  have e := toTokenS_0 xs hb xs.length 0 (by omega)
  rw [filled_zero] at e
  have h0 : (0 : Int) ≤ (xs.length : Int) := by omega
  simp only [Int.natCast_zero] at e
  simp only [List.length_map, Int.toNat_natCast, h0, Int.le_refl, capB_8 (b := 40) hl (by omega), decide_true, Bool.and_self, cond_true, bnd_eq]
  rw [show (.agg [.str ByteArray.empty, .str ByteArray.empty, .bool false] : AVal) = (avToken (ByteArray.empty, ByteArray.empty, false)) from rfl, e]; rfl
theorem eqTokenS_0 (xs : List TokenD) (hb : szTokenS xs ≤ 1048576) : ∀ n i : Nat, i + n = xs.length → Ll_eqTokenS_0 (xs.map avToken) (xs.map avToken) (i : Int) = some (.inr ())
  | 0, i, h => by
    refine ll_eqTokenS_0 _ _ _ ?_
    simp [show ¬ i < xs.length by omega]
  | n + 1, i, h => by
    have hl : xs.length ≤ 1048576 := by unfold szTokenS at hb; omega
    have hi : i < xs.length := by omega
    have ih := eqTokenS_0 xs hb n (i + 1) (by omega)
    refine ll_eqTokenS_0 _ _ _ ?_
    simp only [List.length_map, Int.toNat_natCast, dlt_true hi, d0_true, Bool.and_self, cond_true, cond_false, getD_map avToken hi, wrap_succ hi (by omega), sh_Token, c0_Token, c1_Token, c2_Token, eqToken, Option.bind_some, Bool.not_true, ih]
theorem eqTokenS (xs : List TokenD) (hb : szTokenS xs ≤ 1048576) : Fl_eqTokenS (xs.map avToken) (xs.map avToken) = some true := by
  refine ul_eqTokenS _ _ ?_
  have e := eqTokenS_0 xs hb xs.length 0 (by omega)
  simp only [Int.natCast_zero] at e
  simp [e]
theorem fitTokenS : ∀ {xs : List AVal}, (∀ y ∈ xs, Fits ctx ty_laws_Token y) → ∃ ns : List TokenD, xs = ns.map avToken ∧ ∀ x ∈ ns, wfToken x
  | [], _ => ⟨[], rfl, by simp⟩
  | y :: ys, h => by
    obtain ⟨x, rfl, hx⟩ := fitToken (h y (by simp))
    obtain ⟨ns, rfl, hn⟩ := fitTokenS (xs := ys) fun z hz => h z (by simp [hz])
    exact ⟨x :: ns, rfl, fun z hz => by rcases List.mem_cons.1 hz with rfl | hz; exact hx; exact hn z hz⟩
abbrev LevelD := Int × List ByteArray
def avLevel (x : LevelD) : AVal := .agg [.int .i64 x.1, .ro false 1 (x.2.map sv)]
def aoLevel (x : LevelD) : AVal := .agg [.int .i64 x.1, .own 1 (x.2.map sv)]
theorem asRo_Level (x : LevelD) : asRo (aoLevel x) = avLevel x := by simp only [aoLevel, avLevel, asRo, asRoL, asRoL_map2 asRo_sv]
theorem noRo_Level (x : LevelD) : noRo (aoLevel x) = true := by simp only [aoLevel, noRo, noRoL, noRoL_map noRo_sv, Bool.and_self]
theorem sh_Level (x : LevelD) : shapes [.int .i64, .slice 1] (((avLevel x).cells.drop 0).take 2) = true := rfl
theorem c0_Level (x : LevelD) : ((avLevel x).cell 0).toInt = x.1 := rfl
theorem p0_Level (x : LevelD) : CT.shape (.int .i64) ((avLevel x).cell 0) = true := rfl
theorem c1_Level (x : LevelD) : ((avLevel x).cell 1).elems = x.2.map sv := rfl
theorem p1_Level (x : LevelD) : CT.shape (.slice 1) ((avLevel x).cell 1) = true := rfl
def szLevel (x : LevelD) : Nat := szStringS x.2
def wfLevel (x : LevelD) : Prop := (x.2.length ≤ maxLen ∧ ∀ y ∈ x.2, y.size ≤ maxLen)
theorem tzLevel (x : LevelD) (l : Int) (hw : wfLevel x) (h0 : 0 ≤ l) (h1 : l ≤ 1048576) : Fl_szLevel x.1 (x.2.map sv) l = some (szR l (szLevel x)) := by
  unfold wfLevel at hw
  unfold szLevel
  refine ul_szLevel _ _ _ ?_
  have w0 := hw
  have b0 : 0 ≤ l ∧ l ≤ 1048576 := by exact ⟨h0, h1⟩
  have e0 := tzStringS x.2 (l) w0 b0.1 b0.2
  by_cases g0 : szR l (szStringS x.2) < 0
  · simp only [e0, g0, Option.bind_some, decide_true, cond_true]
    rw [szR_m1 g0 h0]
  simp only [e0, g0, Option.bind_some, decide_false, cond_false]
theorem toLevel (x : LevelD) (h : szLevel x ≤ 1048576) : Fl_toLevel x.1 (x.2.map sv) = some (x.1, (x.2.map sv)) := by
  unfold szLevel at h
  refine ul_toLevel _ _ ?_
  simp only [toStringS x.2 (by omega), Option.bind_some]
theorem eqLevel (x : LevelD) (h : szLevel x ≤ 1048576) : Fl_eqLevel x.1 (x.2.map sv) x.1 (x.2.map sv) = some true := by
  unfold szLevel at h
  refine ul_eqLevel _ _ _ _ ?_
  simp only [eqStringS x.2 (by omega), Option.bind_some, decide_true, beq_self_eq_true, Bool.not_true, cond_false]
theorem fitLevel {y : AVal} (h : Fits ctx ty_laws_Level y) : ∃ x : LevelD, y = avLevel x ∧ wfLevel x := by
  obtain ⟨fs, rfl, g⟩ := h.struct' (us := [ty_int, ty_S_string]) (by kernel_rfl)
  obtain ⟨v0, r, rfl, g0, g⟩ := g.cons'
  obtain ⟨v1, r, rfl, g1, g⟩ := g.cons'
  obtain rfl := g.nil'
  obtain ⟨a0, rfl, _⟩ := g0.int' (k := .i64) (by kernel_rfl)
  obtain ⟨x1, rfl, l1, q1⟩ := g1.slice' (sz := 1) (e := ty_string) (by kernel_rfl)
  obtain ⟨a1, rfl, w1⟩ := fitStringS q1
  rw [List.length_map] at l1
  exact ⟨(a0, a1), rfl, ⟨l1, w1⟩⟩
def totLevel : List LevelD → Nat
  | [] => 0
  | x :: r => szLevel x + totLevel r
theorem totLevel_mem : ∀ {xs : List LevelD} {x : LevelD}, x ∈ xs → szLevel x ≤ totLevel xs
  | [], x, h => by simp at h
  | y :: r, x, h => by
    simp only [List.mem_cons] at h
    simp only [totLevel]
    rcases h with rfl | h
    · omega
    · have := totLevel_mem h; omega
def szLevelS (xs : List LevelD) : Nat := xs.length + totLevel xs
def avLevelS (xs : List LevelD) : AVal := .ro false 2 (xs.map avLevel)
def aoLevelS (xs : List LevelD) : AVal := .own 2 (xs.map aoLevel)
theorem asRo_LevelS (xs : List LevelD) : asRo (aoLevelS xs) = avLevelS xs := by simp only [aoLevelS, avLevelS, asRo, asRoL_map2 asRo_Level]
theorem noRo_LevelS (xs : List LevelD) : noRo (aoLevelS xs) = true := by simp only [aoLevelS, noRo, noRoL_map noRo_Level]
theorem tzLevelS_0 : ∀ (xs pre : List LevelD) (l : Int), (pre ++ xs).length ≤ 1048576 → (∀ y ∈ xs, wfLevel y) → 0 ≤ l → l ≤ 1048576 → Ll_szLevelS_0 ((pre ++ xs).map avLevel) l (pre.length : Int) = some (if szR l (totLevel xs) < 0 then .inl (-1) else .inr (szR l (totLevel xs)))
  | [], pre, l, hl, hx, h0, h1 => by
    refine ll_szLevelS_0 _ _ _ ?_
    have : ¬ l < 0 := by omega
    simp [totLevel, szR_zero h0, this]
  | x :: xs, pre, l, hl, hx, h0, h1 => by
    have hm := mid_len pre xs x
    rw [show totLevel (x :: xs) = szLevel x + totLevel xs from rfl]
    refine ll_szLevelS_0 _ _ _ ?_
    simp only [Int.toNat_natCast, List.length_map, dlt_true hm, d0_true, Bool.and_self, cond_true, map_mid, sh_Level, c0_Level, c1_Level, tzLevel x l (hx x (by simp)) h0 h1, Option.bind_some, wrap_succ hm (by omega)]
    by_cases g : szR l (szLevel x) < 0
    · simp only [g, szR_over g h0, decide_true, cond_true, show ((-1 : Int) < 0) from by omega, if_true]
    · have b := szR_le _ _ g
      have ih := tzLevelS_0 xs (pre ++ [x]) (szR l (szLevel x)) (by simpa using hl) (fun y hy => hx y (by simp [hy])) b.1 (by omega)
      simp only [List.append_assoc, List.cons_append, List.nil_append, show ∀ x : LevelD, (pre ++ [x]).length = pre.length + 1 from fun x => by simp] at ih
      rw [szR_step g] at ih
      by_cases g2 : szR l (szLevel x + totLevel xs) < 0
      · rw [if_pos g2] at ih ⊢
        simp only [g, decide_false, cond_false, ih]
      · rw [if_neg g2] at ih ⊢
        simp only [g, decide_false, cond_false, ih]
theorem tzLevelS (xs : List LevelD) (l : Int) (hw : xs.length ≤ maxLen ∧ ∀ y ∈ xs, wfLevel y) (h0 : 0 ≤ l) (h1 : l ≤ 1048576) : Fl_szLevelS (xs.map avLevel) l = some (szR l (szLevelS xs)) := by
  obtain ⟨q1, q2⟩ := szR_len h0 h1 hw.1
  unfold szLevelS
  refine ul_szLevelS _ _ ?_
  simp only [List.length_map, q1]
  by_cases g : szR l xs.length < 0
  · simp only [g, szR_over g h0, decide_true, cond_true]
  · have b := szR_le _ _ g
    have hn := szR_nn g
    have e := tzLevelS_0 xs [] (szR l xs.length) (by simpa using (by omega : xs.length ≤ 1048576)) hw.2 b.1 (by omega)
    simp only [List.nil_append, List.length_nil, Int.natCast_zero, szR_step g] at e
    by_cases g2 : szR l (xs.length + totLevel xs) < 0
    · rw [if_pos g2] at e
      simp only [g, decide_false, cond_false, q2 g, e, Option.bind_some, Sum.elim_inl, szR_m1 g2 h0]
    · rw [if_neg g2] at e
      simp only [g, decide_false, cond_false, q2 g, e, Option.bind_some, Sum.elim_inr]
theorem toLevelS_0 (xs : List LevelD) (hb : szLevelS xs ≤ 1048576) : ∀ n i : Nat, i + n = xs.length → Ll_toLevelS_0 (xs.map avLevel) (i : Int) (filled aoLevel (aoLevel (0, [])) xs i) = some (xs.map aoLevel)
  | 0, i, h => by
    refine ll_toLevelS_0 _ _ _ ?_
    obtain rfl : i = xs.length := by omega
    simp [filled_all]
  | n + 1, i, h => by
    have hl : xs.length ≤ 1048576 := by unfold szLevelS at hb; omega
    have hi : i < xs.length := by omega
    have ih := toLevelS_0 xs hb n (i + 1) (by omega)
    have e2 : aggQ (aoLevel (0, [])) = true := rfl
    have e4 : Nat.ble 2 (aoLevel (0, [])).cells.length = true := rfl
    have e3 : AVal.agg (setMany (aoLevel (0, [])).cells 0 [.int .i64 xs[i].1, .own 1 (xs[i].2.map sv)]) = aoLevel xs[i] := rfl
    have hz : szLevel xs[i] ≤ 1048576 := by have := totLevel_mem (List.getElem_mem hi); unfold szLevelS at hb; omega
    refine ll_toLevelS_0 _ _ _ ?_
    simp only [List.length_map, Int.toNat_natCast, dlt_true hi, d0_true, Bool.and_self, cond_true, getD_map avLevel hi, filled_len aoLevel (aoLevel (0, [])) (Nat.le_of_lt hi), filled_get aoLevel (aoLevel (0, [])) hi, blt_true hi, wrap_succ hi (by omega), sh_Level, c0_Level, c1_Level, toLevel xs[i] hz, Option.bind_some, e2, e4, e3, bnd_eq, filled_set aoLevel (aoLevel (0, [])) hi, ih]
theorem toLevelS (xs : List LevelD) (hb : szLevelS xs ≤ 1048576) : Fl_toLevelS (xs.map avLevel) = some (xs.map aoLevel) := by
  have hl : xs.length ≤ 1048576 := by unfold szLevelS at hb; omega
  refine ul_toLevelS _ ?_
  have e := toLevelS_0 xs hb xs.length 0 (by omega)
  rw [filled_zero] at e
  have h0 : (0 : Int) ≤ (xs.length : Int) := by omega
  simp only [Int.natCast_zero] at e
  simp only [List.length_map, Int.toNat_natCast, h0, Int.le_refl, capB_8 (b := 32) hl (by omega), decide_true, Bool.and_self, cond_true, bnd_eq]
  rw [show (.agg [.int .i64 0, .own 1 []] : AVal) = (aoLevel (0, [])) from rfl, e]; rfl
theorem eqLevelS_0 (xs : List LevelD) (hb : szLevelS xs ≤ 1048576) : ∀ n i : Nat, i + n = xs.length → Ll_eqLevelS_0 (xs.map avLevel) (xs.map avLevel) (i : Int) = some (.inr ())
  | 0, i, h => by
    refine ll_eqLevelS_0 _ _ _ ?_
    simp [show ¬ i < xs.length by omega]
  | n + 1, i, h => by
    have hl : xs.length ≤ 1048576 := by unfold szLevelS at hb; omega
    have hi : i < xs.length := by omega
    have ih := eqLevelS_0 xs hb n (i + 1) (by omega)
    have hz : szLevel xs[i] ≤ 1048576 := by have := totLevel_mem (List.getElem_mem hi); unfold szLevelS at hb; omega
    refine ll_eqLevelS_0 _ _ _ ?_
    simp only [List.length_map, Int.toNat_natCast, dlt_true hi, d0_true, Bool.and_self, cond_true, cond_false, getD_map avLevel hi, wrap_succ hi (by omega), sh_Level, c0_Level, c1_Level, eqLevel xs[i] hz, Option.bind_some, Bool.not_true, ih]
theorem eqLevelS (xs : List LevelD) (hb : szLevelS xs ≤ 1048576) : Fl_eqLevelS (xs.map avLevel) (xs.map avLevel) = some true := by
  refine ul_eqLevelS _ _ ?_
  have e := eqLevelS_0 xs hb xs.length 0 (by omega)
  simp only [Int.natCast_zero] at e
  simp [e]
theorem fitLevelS : ∀ {xs : List AVal}, (∀ y ∈ xs, Fits ctx ty_laws_Level y) → ∃ ns : List LevelD, xs = ns.map avLevel ∧ ∀ x ∈ ns, wfLevel x
  | [], _ => ⟨[], rfl, by simp⟩
  | y :: ys, h => by
    obtain ⟨x, rfl, hx⟩ := fitLevel (h y (by simp))
    obtain ⟨ns, rfl, hn⟩ := fitLevelS (xs := ys) fun z hz => h z (by simp [hz])
    exact ⟨x :: ns, rfl, fun z hz => by rcases List.mem_cons.1 hz with rfl | hz; exact hx; exact hn z hz⟩
abbrev GAltD := List Int × ByteArray
def avGAlt (x : GAltD) : AVal := .agg [.ro false 1 (x.1.map iv), .str x.2]
def aoGAlt (x : GAltD) : AVal := .agg [.own 1 (x.1.map iv), .str x.2]
theorem asRo_GAlt (x : GAltD) : asRo (aoGAlt x) = avGAlt x := by simp only [aoGAlt, avGAlt, asRo, asRoL, asRoL_map2 asRo_iv]
theorem noRo_GAlt (x : GAltD) : noRo (aoGAlt x) = true := by simp only [aoGAlt, noRo, noRoL, noRoL_map noRo_iv, Bool.and_self]
theorem sh_GAlt (x : GAltD) : shapes [.slice 1, .str] (((avGAlt x).cells.drop 0).take 2) = true := rfl
theorem c0_GAlt (x : GAltD) : ((avGAlt x).cell 0).elems = x.1.map iv := rfl
theorem p0_GAlt (x : GAltD) : CT.shape (.slice 1) ((avGAlt x).cell 0) = true := rfl
theorem c1_GAlt (x : GAltD) : ((avGAlt x).cell 1).toStr = x.2 := rfl
theorem p1_GAlt (x : GAltD) : CT.shape (.str) ((avGAlt x).cell 1) = true := rfl
def szGAlt (x : GAltD) : Nat := x.1.length + x.2.size
def wfGAlt (x : GAltD) : Prop := (x.1.length ≤ maxLen) ∧ (x.2.size ≤ maxLen)
theorem tzGAlt (x : GAltD) (l : Int) (hw : wfGAlt x) (h0 : 0 ≤ l) (h1 : l ≤ 1048576) : Fl_szGAlt (x.1.map iv) x.2 l = some (szR l (szGAlt x)) := by
  unfold wfGAlt at hw
  unfold szGAlt
  refine ul_szGAlt _ _ _ ?_
  obtain ⟨w0, w1⟩ := hw
  have b0 : 0 ≤ l ∧ l ≤ 1048576 := by exact ⟨h0, h1⟩
  have e0 := tzIntS x.1 (l) w0 b0.1 b0.2
  by_cases g0 : szR l (x.1.length) < 0
  · simp only [e0, g0, Option.bind_some, decide_true, cond_true]
    rw [show szR l (x.1.length + x.2.size) = -1 from by rw [show x.1.length + x.2.size = (x.1.length) + (x.2.size) by omega]; exact szR_over g0 h0]
  have b1 : 0 ≤ szR l (x.1.length) ∧ szR l (x.1.length) ≤ 1048576 := by have := szR_le _ _ g0; omega
  obtain ⟨e1, e1'⟩ := szR_len b1.1 b1.2 w1
  rw [szR_step g0] at e1 e1'
  by_cases g1 : szR l (x.1.length + x.2.size) < 0
  · simp only [e0, g0, Option.bind_some, decide_false, cond_false, e1, g1, decide_true, cond_true]
    rw [szR_m1 g1 h0]
  simp only [e0, g0, Option.bind_some, decide_false, cond_false, e1, g1, e1' g1]
theorem toGAlt (x : GAltD) (h : szGAlt x ≤ 1048576) : Fl_toGAlt (x.1.map iv) x.2 = some ((x.1.map iv), x.2) := by
  unfold szGAlt at h
  refine ul_toGAlt _ _ ?_
  simp only [toIntS x.1 (by omega), Option.bind_some]
theorem eqGAlt (x : GAltD) (h : szGAlt x ≤ 1048576) : Fl_eqGAlt (x.1.map iv) x.2 (x.1.map iv) x.2 = some true := by
  unfold szGAlt at h
  refine ul_eqGAlt _ _ _ _ ?_
  simp only [eqIntS x.1 (by omega), Option.bind_some, decide_true, beq_self_eq_true, Bool.not_true, cond_false]
theorem fitGAlt {y : AVal} (h : Fits ctx ty_laws_GAlt y) : ∃ x : GAltD, y = avGAlt x ∧ wfGAlt x := by
  obtain ⟨fs, rfl, g⟩ := h.struct' (us := [ty_S_int, ty_string]) (by kernel_rfl)
  obtain ⟨v0, r, rfl, g0, g⟩ := g.cons'
  obtain ⟨v1, r, rfl, g1, g⟩ := g.cons'
  obtain rfl := g.nil'
  obtain ⟨x0, rfl, l0, q0⟩ := g0.slice' (sz := 1) (e := ty_int) (by kernel_rfl)
  obtain ⟨a0, rfl⟩ := fitIntS q0
  rw [List.length_map] at l0
  obtain ⟨a1, rfl, w1⟩ := g1.str' (by kernel_rfl)
  exact ⟨(a0, a1), rfl, ⟨l0, w1⟩⟩
def totGAlt : List GAltD → Nat
  | [] => 0
  | x :: r => szGAlt x + totGAlt r
theorem totGAlt_mem : ∀ {xs : List GAltD} {x : GAltD}, x ∈ xs → szGAlt x ≤ totGAlt xs
  | [], x, h => by simp at h
  | y :: r, x, h => by
    simp only [List.mem_cons] at h
    simp only [totGAlt]
    rcases h with rfl | h
    · omega
    · have := totGAlt_mem h; omega
def szGAltS (xs : List GAltD) : Nat := xs.length + totGAlt xs
def avGAltS (xs : List GAltD) : AVal := .ro false 2 (xs.map avGAlt)
def aoGAltS (xs : List GAltD) : AVal := .own 2 (xs.map aoGAlt)
theorem asRo_GAltS (xs : List GAltD) : asRo (aoGAltS xs) = avGAltS xs := by simp only [aoGAltS, avGAltS, asRo, asRoL_map2 asRo_GAlt]
theorem noRo_GAltS (xs : List GAltD) : noRo (aoGAltS xs) = true := by simp only [aoGAltS, noRo, noRoL_map noRo_GAlt]
theorem tzGAltS_0 : ∀ (xs pre : List GAltD) (l : Int), (pre ++ xs).length ≤ 1048576 → (∀ y ∈ xs, wfGAlt y) → 0 ≤ l → l ≤ 1048576 → Ll_szGAltS_0 ((pre ++ xs).map avGAlt) l (pre.length : Int) = some (if szR l (totGAlt xs) < 0 then .inl (-1) else .inr (szR l (totGAlt xs)))
  | [], pre, l, hl, hx, h0, h1 => by
    refine ll_szGAltS_0 _ _ _ ?_
    have : ¬ l < 0 := by omega
    simp [totGAlt, szR_zero h0, this]
  | x :: xs, pre, l, hl, hx, h0, h1 => by
    have hm := mid_len pre xs x
    rw [show totGAlt (x :: xs) = szGAlt x + totGAlt xs from rfl]
    refine ll_szGAltS_0 _ _ _ ?_
    simp only [Int.toNat_natCast, List.length_map, dlt_true hm, d0_true, Bool.and_self, cond_true, map_mid, sh_GAlt, c0_GAlt, c1_GAlt, tzGAlt x l (hx x (by simp)) h0 h1, Option.bind_some, wrap_succ hm (by omega)]
    by_cases g : szR l (szGAlt x) < 0
    · simp only [g, szR_over g h0, decide_true, cond_true, show ((-1 : Int) < 0) from by omega, if_true]
    · have b := szR_le _ _ g
      have ih := tzGAltS_0 xs (pre ++ [x]) (szR l (szGAlt x)) (by simpa using hl) (fun y hy => hx y (by simp [hy])) b.1 (by omega)
      simp only [List.append_assoc, List.cons_append, List.nil_append, show ∀ x : GAltD, (pre ++ [x]).length = pre.length + 1 from fun x => by simp] at ih
      rw [szR_step g] at ih
      by_cases g2 : szR l (szGAlt x + totGAlt xs) < 0
      · rw [if_pos g2] at ih ⊢
        simp only [g, decide_false, cond_false, ih]
      · rw [if_neg g2] at ih ⊢
        simp only [g, decide_false, cond_false, ih]
theorem tzGAltS (xs : List GAltD) (l : Int) (hw : xs.length ≤ maxLen ∧ ∀ y ∈ xs, wfGAlt y) (h0 : 0 ≤ l) (h1 : l ≤ 1048576) : Fl_szGAltS (xs.map avGAlt) l = some (szR l (szGAltS xs)) := by
  obtain ⟨q1, q2⟩ := szR_len h0 h1 hw.1
  unfold szGAltS
  refine ul_szGAltS _ _ ?_
  simp only [List.length_map, q1]
  by_cases g : szR l xs.length < 0
  · simp only [g, szR_over g h0, decide_true, cond_true]
  · have b := szR_le _ _ g
    have hn := szR_nn g
    have e := tzGAltS_0 xs [] (szR l xs.length) (by simpa using (by omega : xs.length ≤ 1048576)) hw.2 b.1 (by omega)
    simp only [List.nil_append, List.length_nil, Int.natCast_zero, szR_step g] at e
    by_cases g2 : szR l (xs.length + totGAlt xs) < 0
    · rw [if_pos g2] at e
      simp only [g, decide_false, cond_false, q2 g, e, Option.bind_some, Sum.elim_inl, szR_m1 g2 h0]
    · rw [if_neg g2] at e
      simp only [g, decide_false, cond_false, q2 g, e, Option.bind_some, Sum.elim_inr]
theorem toGAltS_0 (xs : List GAltD) (hb : szGAltS xs ≤ 1048576) : ∀ n i : Nat, i + n = xs.length → Ll_toGAltS_0 (xs.map avGAlt) (i : Int) (filled aoGAlt (aoGAlt ([], ByteArray.empty)) xs i) = some (xs.map aoGAlt)
  | 0, i, h => by
    refine ll_toGAltS_0 _ _ _ ?_
    obtain rfl : i = xs.length := by omega
    simp [filled_all]
  | n + 1, i, h => by
    have hl : xs.length ≤ 1048576 := by unfold szGAltS at hb; omega
    have hi : i < xs.length := by omega
    have ih := toGAltS_0 xs hb n (i + 1) (by omega)
    have e2 : aggQ (aoGAlt ([], ByteArray.empty)) = true := rfl
    have e4 : Nat.ble 2 (aoGAlt ([], ByteArray.empty)).cells.length = true := rfl
    have e3 : AVal.agg (setMany (aoGAlt ([], ByteArray.empty)).cells 0 [.own 1 (xs[i].1.map iv), .str xs[i].2]) = aoGAlt xs[i] := rfl
    have hz : szGAlt xs[i] ≤ 1048576 := by have := totGAlt_mem (List.getElem_mem hi); unfold szGAltS at hb; omega
    refine ll_toGAltS_0 _ _ _ ?_
    simp only [List.length_map, Int.toNat_natCast, dlt_true hi, d0_true, Bool.and_self, cond_true, getD_map avGAlt hi, filled_len aoGAlt (aoGAlt ([], ByteArray.empty)) (Nat.le_of_lt hi), filled_get aoGAlt (aoGAlt ([], ByteArray.empty)) hi, blt_true hi, wrap_succ hi (by omega), sh_GAlt, c0_GAlt, c1_GAlt, toGAlt xs[i] hz, Option.bind_some, e2, e4, e3, bnd_eq, filled_set aoGAlt (aoGAlt ([], ByteArray.empty)) hi, ih]
theorem toGAltS (xs : List GAltD) (hb : szGAltS xs ≤ 1048576) : Fl_toGAltS (xs.map avGAlt) = some (xs.map aoGAlt) := by
  have hl : xs.length ≤ 1048576 := by unfold szGAltS at hb; omega
  refine ul_toGAltS _ ?_
  have e := toGAltS_0 xs hb xs.length 0 (by omega)
  rw [filled_zero] at e
  have h0 : (0 : Int) ≤ (xs.length : Int) := by omega
  simp only [Int.natCast_zero] at e
  simp only [List.length_map, Int.toNat_natCast, h0, Int.le_refl, capB_8 (b := 40) hl (by omega), decide_true, Bool.and_self, cond_true, bnd_eq]
  rw [show (.agg [.own 1 [], .str ByteArray.empty] : AVal) = (aoGAlt ([], ByteArray.empty)) from rfl, e]; rfl
theorem eqGAltS_0 (xs : List GAltD) (hb : szGAltS xs ≤ 1048576) : ∀ n i : Nat, i + n = xs.length → Ll_eqGAltS_0 (xs.map avGAlt) (xs.map avGAlt) (i : Int) = some (.inr ())
  | 0, i, h => by
    refine ll_eqGAltS_0 _ _ _ ?_
    simp [show ¬ i < xs.length by omega]
  | n + 1, i, h => by
    have hl : xs.length ≤ 1048576 := by unfold szGAltS at hb; omega
    have hi : i < xs.length := by omega
    have ih := eqGAltS_0 xs hb n (i + 1) (by omega)
    have hz : szGAlt xs[i] ≤ 1048576 := by have := totGAlt_mem (List.getElem_mem hi); unfold szGAltS at hb; omega
    refine ll_eqGAltS_0 _ _ _ ?_
    simp only [List.length_map, Int.toNat_natCast, dlt_true hi, d0_true, Bool.and_self, cond_true, cond_false, getD_map avGAlt hi, wrap_succ hi (by omega), sh_GAlt, c0_GAlt, c1_GAlt, eqGAlt xs[i] hz, Option.bind_some, Bool.not_true, ih]
theorem eqGAltS (xs : List GAltD) (hb : szGAltS xs ≤ 1048576) : Fl_eqGAltS (xs.map avGAlt) (xs.map avGAlt) = some true := by
  refine ul_eqGAltS _ _ ?_
  have e := eqGAltS_0 xs hb xs.length 0 (by omega)
  simp only [Int.natCast_zero] at e
  simp [e]
theorem fitGAltS : ∀ {xs : List AVal}, (∀ y ∈ xs, Fits ctx ty_laws_GAlt y) → ∃ ns : List GAltD, xs = ns.map avGAlt ∧ ∀ x ∈ ns, wfGAlt x
  | [], _ => ⟨[], rfl, by simp⟩
  | y :: ys, h => by
    obtain ⟨x, rfl, hx⟩ := fitGAlt (h y (by simp))
    obtain ⟨ns, rfl, hn⟩ := fitGAltS (xs := ys) fun z hz => h z (by simp [hz])
    exact ⟨x :: ns, rfl, fun z hz => by rcases List.mem_cons.1 hz with rfl | hz; exact hx; exact hn z hz⟩
abbrev GRuleD := ByteArray × List GAltD
def avGRule (x : GRuleD) : AVal := .agg [.str x.1, .ro false 2 (x.2.map avGAlt)]
def aoGRule (x : GRuleD) : AVal := .agg [.str x.1, .own 2 (x.2.map aoGAlt)]
theorem asRo_GRule (x : GRuleD) : asRo (aoGRule x) = avGRule x := by simp only [aoGRule, avGRule, asRo, asRoL, asRoL_map2 asRo_GAlt]
theorem noRo_GRule (x : GRuleD) : noRo (aoGRule x) = true := by simp only [aoGRule, noRo, noRoL, noRoL_map noRo_GAlt, Bool.and_self]
theorem sh_GRule (x : GRuleD) : shapes [.str, .slice 2] (((avGRule x).cells.drop 0).take 2) = true := rfl
theorem c0_GRule (x : GRuleD) : ((avGRule x).cell 0).toStr = x.1 := rfl
theorem p0_GRule (x : GRuleD) : CT.shape (.str) ((avGRule x).cell 0) = true := rfl
theorem c1_GRule (x : GRuleD) : ((avGRule x).cell 1).elems = x.2.map avGAlt := rfl
theorem p1_GRule (x : GRuleD) : CT.shape (.slice 2) ((avGRule x).cell 1) = true := rfl
def szGRule (x : GRuleD) : Nat := x.1.size + szGAltS x.2
def wfGRule (x : GRuleD) : Prop := (x.1.size ≤ maxLen) ∧ (x.2.length ≤ maxLen ∧ ∀ y ∈ x.2, wfGAlt y)
theorem tzGRule (x : GRuleD) (l : Int) (hw : wfGRule x) (h0 : 0 ≤ l) (h1 : l ≤ 1048576) : Fl_szGRule x.1 (x.2.map avGAlt) l = some (szR l (szGRule x)) := by
  unfold wfGRule at hw
  unfold szGRule
  refine ul_szGRule _ _ _ ?_
  obtain ⟨w0, w1⟩ := hw
  have b0 : 0 ≤ l ∧ l ≤ 1048576 := by exact ⟨h0, h1⟩
  obtain ⟨e0, e0'⟩ := szR_len b0.1 b0.2 w0
  by_cases g0 : szR l (x.1.size) < 0
  · simp only [e0, g0, decide_true, cond_true]
    rw [show szR l (x.1.size + szGAltS x.2) = -1 from by rw [show x.1.size + szGAltS x.2 = (x.1.size) + (szGAltS x.2) by omega]; exact szR_over g0 h0]
  have b1 : 0 ≤ szR l (x.1.size) ∧ szR l (x.1.size) ≤ 1048576 := by have := szR_le _ _ g0; omega
  have e1 := tzGAltS x.2 (szR l (x.1.size)) w1 b1.1 b1.2
  rw [szR_step g0] at e1
  by_cases g1 : szR l (x.1.size + szGAltS x.2) < 0
  · simp only [e0, g0, decide_false, cond_false, e0' g0, e1, g1, Option.bind_some, decide_true, cond_true]
    rw [szR_m1 g1 h0]
  simp only [e0, g0, decide_false, cond_false, e0' g0, e1, g1, Option.bind_some]
theorem toGRule (x : GRuleD) (h : szGRule x ≤ 1048576) : Fl_toGRule x.1 (x.2.map avGAlt) = some (x.1, (x.2.map aoGAlt)) := by
  unfold szGRule at h
  refine ul_toGRule _ _ ?_
  simp only [toGAltS x.2 (by omega), Option.bind_some]
theorem eqGRule (x : GRuleD) (h : szGRule x ≤ 1048576) : Fl_eqGRule x.1 (x.2.map avGAlt) x.1 (x.2.map avGAlt) = some true := by
  unfold szGRule at h
  refine ul_eqGRule _ _ _ _ ?_
  simp only [eqGAltS x.2 (by omega), Option.bind_some, decide_true, beq_self_eq_true, Bool.not_true, cond_false]
theorem fitGRule {y : AVal} (h : Fits ctx ty_laws_GRule y) : ∃ x : GRuleD, y = avGRule x ∧ wfGRule x := by
  obtain ⟨fs, rfl, g⟩ := h.struct' (us := [ty_string, ty_S_laws_GAlt]) (by kernel_rfl)
  obtain ⟨v0, r, rfl, g0, g⟩ := g.cons'
  obtain ⟨v1, r, rfl, g1, g⟩ := g.cons'
  obtain rfl := g.nil'
  obtain ⟨a0, rfl, w0⟩ := g0.str' (by kernel_rfl)
  obtain ⟨x1, rfl, l1, q1⟩ := g1.slice' (sz := 2) (e := ty_laws_GAlt) (by kernel_rfl)
  obtain ⟨a1, rfl, w1⟩ := fitGAltS q1
  rw [List.length_map] at l1
  exact ⟨(a0, a1), rfl, ⟨w0, ⟨l1, w1⟩⟩⟩
def totGRule : List GRuleD → Nat
  | [] => 0
  | x :: r => szGRule x + totGRule r
theorem totGRule_mem : ∀ {xs : List GRuleD} {x : GRuleD}, x ∈ xs → szGRule x ≤ totGRule xs
  | [], x, h => by simp at h
  | y :: r, x, h => by
    simp only [List.mem_cons] at h
    simp only [totGRule]
    rcases h with rfl | h
    · omega
    · have := totGRule_mem h; omega
def szGRuleS (xs : List GRuleD) : Nat := xs.length + totGRule xs
def avGRuleS (xs : List GRuleD) : AVal := .ro false 2 (xs.map avGRule)
def aoGRuleS (xs : List GRuleD) : AVal := .own 2 (xs.map aoGRule)
theorem asRo_GRuleS (xs : List GRuleD) : asRo (aoGRuleS xs) = avGRuleS xs := by simp only [aoGRuleS, avGRuleS, asRo, asRoL_map2 asRo_GRule]
theorem noRo_GRuleS (xs : List GRuleD) : noRo (aoGRuleS xs) = true := by simp only [aoGRuleS, noRo, noRoL_map noRo_GRule]
theorem tzGRuleS_0 : ∀ (xs pre : List GRuleD) (l : Int), (pre ++ xs).length ≤ 1048576 → (∀ y ∈ xs, wfGRule y) → 0 ≤ l → l ≤ 1048576 → Ll_szGRuleS_0 ((pre ++ xs).map avGRule) l (pre.length : Int) = some (if szR l (totGRule xs) < 0 then .inl (-1) else .inr (szR l (totGRule xs)))
  | [], pre, l, hl, hx, h0, h1 => by
    refine ll_szGRuleS_0 _ _ _ ?_
    have : ¬ l < 0 := by omega
    simp [totGRule, szR_zero h0, this]
  | x :: xs, pre, l, hl, hx, h0, h1 => by
    have hm := mid_len pre xs x
    rw [show totGRule (x :: xs) = szGRule x + totGRule xs from rfl]
    refine ll_szGRuleS_0 _ _ _ ?_
    simp only [Int.toNat_natCast, List.length_map, dlt_true hm, d0_true, Bool.and_self, cond_true, map_mid, sh_GRule, c0_GRule, c1_GRule, tzGRule x l (hx x (by simp)) h0 h1, Option.bind_some, wrap_succ hm (by omega)]
    by_cases g : szR l (szGRule x) < 0
    · simp only [g, szR_over g h0, decide_true, cond_true, show ((-1 : Int) < 0) from by omega, if_true]
    · have b := szR_le _ _ g
      have ih := tzGRuleS_0 xs (pre ++ [x]) (szR l (szGRule x)) (by simpa using hl) (fun y hy => hx y (by simp [hy])) b.1 (by omega)
      simp only [List.append_assoc, List.cons_append, List.nil_append, show ∀ x : GRuleD, (pre ++ [x]).length = pre.length + 1 from fun x => by simp] at ih
      rw [szR_step g] at ih
      by_cases g2 : szR l (szGRule x + totGRule xs) < 0
      · rw [if_pos g2] at ih ⊢
        simp only [g, decide_false, cond_false, ih]
      · rw [if_neg g2] at ih ⊢
        simp only [g, decide_false, cond_false, ih]
theorem tzGRuleS (xs : List GRuleD) (l : Int) (hw : xs.length ≤ maxLen ∧ ∀ y ∈ xs, wfGRule y) (h0 : 0 ≤ l) (h1 : l ≤ 1048576) : Fl_szGRuleS (xs.map avGRule) l = some (szR l (szGRuleS xs)) := by
  obtain ⟨q1, q2⟩ := szR_len h0 h1 hw.1
  unfold szGRuleS
  refine ul_szGRuleS _ _ ?_
  simp only [List.length_map, q1]
  by_cases g : szR l xs.length < 0
  · simp only [g, szR_over g h0, decide_true, cond_true]
  · have b := szR_le _ _ g
    have hn := szR_nn g
    have e := tzGRuleS_0 xs [] (szR l xs.length) (by simpa using (by omega : xs.length ≤ 1048576)) hw.2 b.1 (by omega)
    simp only [List.nil_append, List.length_nil, Int.natCast_zero, szR_step g] at e
    by_cases g2 : szR l (xs.length + totGRule xs) < 0
    · rw [if_pos g2] at e
      simp only [g, decide_false, cond_false, q2 g, e, Option.bind_some, Sum.elim_inl, szR_m1 g2 h0]
    · rw [if_neg g2] at e
      simp only [g, decide_false, cond_false, q2 g, e, Option.bind_some, Sum.elim_inr]
theorem toGRuleS_0 (xs : List GRuleD) (hb : szGRuleS xs ≤ 1048576) : ∀ n i : Nat, i + n = xs.length → Ll_toGRuleS_0 (xs.map avGRule) (i : Int) (filled aoGRule (aoGRule (ByteArray.empty, [])) xs i) = some (xs.map aoGRule)
  | 0, i, h => by
    refine ll_toGRuleS_0 _ _ _ ?_
    obtain rfl : i = xs.length := by omega
    simp [filled_all]
  | n + 1, i, h => by
    have hl : xs.length ≤ 1048576 := by unfold szGRuleS at hb; omega
    have hi : i < xs.length := by omega
    have ih := toGRuleS_0 xs hb n (i + 1) (by omega)
    have e2 : aggQ (aoGRule (ByteArray.empty, [])) = true := rfl
    have e4 : Nat.ble 2 (aoGRule (ByteArray.empty, [])).cells.length = true := rfl
    have e3 : AVal.agg (setMany (aoGRule (ByteArray.empty, [])).cells 0 [.str xs[i].1, .own 2 (xs[i].2.map aoGAlt)]) = aoGRule xs[i] := rfl
    have hz : szGRule xs[i] ≤ 1048576 := by have := totGRule_mem (List.getElem_mem hi); unfold szGRuleS at hb; omega
    refine ll_toGRuleS_0 _ _ _ ?_
    simp only [List.length_map, Int.toNat_natCast, dlt_true hi, d0_true, Bool.and_self, cond_true, getD_map avGRule hi, filled_len aoGRule (aoGRule (ByteArray.empty, [])) (Nat.le_of_lt hi), filled_get aoGRule (aoGRule (ByteArray.empty, [])) hi, blt_true hi, wrap_succ hi (by omega), sh_GRule, c0_GRule, c1_GRule, toGRule xs[i] hz, Option.bind_some, e2, e4, e3, bnd_eq, filled_set aoGRule (aoGRule (ByteArray.empty, [])) hi, ih]
theorem toGRuleS (xs : List GRuleD) (hb : szGRuleS xs ≤ 1048576) : Fl_toGRuleS (xs.map avGRule) = some (xs.map aoGRule) := by
  have hl : xs.length ≤ 1048576 := by unfold szGRuleS at hb; omega
  refine ul_toGRuleS _ ?_
  have e := toGRuleS_0 xs hb xs.length 0 (by omega)
  rw [filled_zero] at e
  have h0 : (0 : Int) ≤ (xs.length : Int) := by omega
  simp only [Int.natCast_zero] at e
  simp only [List.length_map, Int.toNat_natCast, h0, Int.le_refl, capB_8 (b := 40) hl (by omega), decide_true, Bool.and_self, cond_true, bnd_eq]
  rw [show (.agg [.str ByteArray.empty, .own 2 []] : AVal) = (aoGRule (ByteArray.empty, [])) from rfl, e]; rfl
theorem eqGRuleS_0 (xs : List GRuleD) (hb : szGRuleS xs ≤ 1048576) : ∀ n i : Nat, i + n = xs.length → Ll_eqGRuleS_0 (xs.map avGRule) (xs.map avGRule) (i : Int) = some (.inr ())
  | 0, i, h => by
    refine ll_eqGRuleS_0 _ _ _ ?_
    simp [show ¬ i < xs.length by omega]
  | n + 1, i, h => by
    have hl : xs.length ≤ 1048576 := by unfold szGRuleS at hb; omega
    have hi : i < xs.length := by omega
    have ih := eqGRuleS_0 xs hb n (i + 1) (by omega)
    have hz : szGRule xs[i] ≤ 1048576 := by have := totGRule_mem (List.getElem_mem hi); unfold szGRuleS at hb; omega
    refine ll_eqGRuleS_0 _ _ _ ?_
    simp only [List.length_map, Int.toNat_natCast, dlt_true hi, d0_true, Bool.and_self, cond_true, cond_false, getD_map avGRule hi, wrap_succ hi (by omega), sh_GRule, c0_GRule, c1_GRule, eqGRule xs[i] hz, Option.bind_some, Bool.not_true, ih]
theorem eqGRuleS (xs : List GRuleD) (hb : szGRuleS xs ≤ 1048576) : Fl_eqGRuleS (xs.map avGRule) (xs.map avGRule) = some true := by
  refine ul_eqGRuleS _ _ ?_
  have e := eqGRuleS_0 xs hb xs.length 0 (by omega)
  simp only [Int.natCast_zero] at e
  simp [e]
theorem fitGRuleS : ∀ {xs : List AVal}, (∀ y ∈ xs, Fits ctx ty_laws_GRule y) → ∃ ns : List GRuleD, xs = ns.map avGRule ∧ ∀ x ∈ ns, wfGRule x
  | [], _ => ⟨[], rfl, by simp⟩
  | y :: ys, h => by
    obtain ⟨x, rfl, hx⟩ := fitGRule (h y (by simp))
    obtain ⟨ns, rfl, hn⟩ := fitGRuleS (xs := ys) fun z hz => h z (by simp [hz])
    exact ⟨x :: ns, rfl, fun z hz => by rcases List.mem_cons.1 hz with rfl | hz; exact hx; exact hn z hz⟩
def totIntS : List (List Int) → Nat
  | [] => 0
  | x :: r => x.length + totIntS r
theorem totIntS_mem : ∀ {xs : List (List Int)} {x : List Int}, x ∈ xs → x.length ≤ totIntS xs
  | [], x, h => by simp at h
  | y :: r, x, h => by
    simp only [List.mem_cons] at h
    simp only [totIntS]
    rcases h with rfl | h
    · omega
    · have := totIntS_mem h; omega
def szIntSS (xs : List (List Int)) : Nat := xs.length + totIntS xs
def avIntSS (xs : List (List Int)) : AVal := .ro false 1 (xs.map avIntS)
def aoIntSS (xs : List (List Int)) : AVal := .own 1 (xs.map aoIntS)
theorem asRo_IntSS (xs : List (List Int)) : asRo (aoIntSS xs) = avIntSS xs := by simp only [aoIntSS, avIntSS, asRo, asRoL_map2 asRo_IntS]
theorem noRo_IntSS (xs : List (List Int)) : noRo (aoIntSS xs) = true := by simp only [aoIntSS, noRo, noRoL_map noRo_IntS]
theorem tzIntSS_0 : ∀ (xs pre : List (List Int)) (l : Int), (pre ++ xs).length ≤ 1048576 → (∀ y ∈ xs, y.length ≤ maxLen) → 0 ≤ l → l ≤ 1048576 → Ll_szIntSS_0 ((pre ++ xs).map avIntS) l (pre.length : Int) = some (if szR l (totIntS xs) < 0 then .inl (-1) else .inr (szR l (totIntS xs)))
  | [], pre, l, hl, hx, h0, h1 => by
    refine ll_szIntSS_0 _ _ _ ?_
    have : ¬ l < 0 := by omega
    simp [totIntS, szR_zero h0, this]
  | x :: xs, pre, l, hl, hx, h0, h1 => by
    have hm := mid_len pre xs x
    rw [show totIntS (x :: xs) = x.length + totIntS xs from rfl]
    have hsh : CT.shape (.slice 1) (avIntS x) = true := rfl
    have hto : (avIntS x).elems = x.map iv := rfl
    refine ll_szIntSS_0 _ _ _ ?_
    simp only [Int.toNat_natCast, List.length_map, dlt_true hm, d0_true, Bool.and_self, cond_true, map_mid, hsh, hto, tzIntS x l (hx x (by simp)) h0 h1, Option.bind_some, wrap_succ hm (by omega)]
    by_cases g : szR l (x.length) < 0
    · simp only [g, szR_over g h0, decide_true, cond_true, show ((-1 : Int) < 0) from by omega, if_true]
    · have b := szR_le _ _ g
      have ih := tzIntSS_0 xs (pre ++ [x]) (szR l (x.length)) (by simpa using hl) (fun y hy => hx y (by simp [hy])) b.1 (by omega)
      simp only [List.append_assoc, List.cons_append, List.nil_append, show ∀ x : List Int, (pre ++ [x]).length = pre.length + 1 from fun x => by simp] at ih
      rw [szR_step g] at ih
      by_cases g2 : szR l (x.length + totIntS xs) < 0
      · rw [if_pos g2] at ih ⊢
        simp only [g, decide_false, cond_false, ih]
      · rw [if_neg g2] at ih ⊢
        simp only [g, decide_false, cond_false, ih]
theorem tzIntSS (xs : List (List Int)) (l : Int) (hw : xs.length ≤ maxLen ∧ ∀ y ∈ xs, y.length ≤ maxLen) (h0 : 0 ≤ l) (h1 : l ≤ 1048576) : Fl_szIntSS (xs.map avIntS) l = some (szR l (szIntSS xs)) := by
  obtain ⟨q1, q2⟩ := szR_len h0 h1 hw.1
  unfold szIntSS
  refine ul_szIntSS _ _ ?_
  simp only [List.length_map, q1]
  by_cases g : szR l xs.length < 0
  · simp only [g, szR_over g h0, decide_true, cond_true]
  · have b := szR_le _ _ g
    have hn := szR_nn g
    have e := tzIntSS_0 xs [] (szR l xs.length) (by simpa using (by omega : xs.length ≤ 1048576)) hw.2 b.1 (by omega)
    simp only [List.nil_append, List.length_nil, Int.natCast_zero, szR_step g] at e
    by_cases g2 : szR l (xs.length + totIntS xs) < 0
    · rw [if_pos g2] at e
      simp only [g, decide_false, cond_false, q2 g, e, Option.bind_some, Sum.elim_inl, szR_m1 g2 h0]
    · rw [if_neg g2] at e
      simp only [g, decide_false, cond_false, q2 g, e, Option.bind_some, Sum.elim_inr]
theorem toIntSS_0 (xs : List (List Int)) (hb : szIntSS xs ≤ 1048576) : ∀ n i : Nat, i + n = xs.length → Ll_toIntSS_0 (xs.map avIntS) (i : Int) (filled aoIntS (aoIntS []) xs i) = some (xs.map aoIntS)
  | 0, i, h => by
    refine ll_toIntSS_0 _ _ _ ?_
    obtain rfl : i = xs.length := by omega
    simp [filled_all]
  | n + 1, i, h => by
    have hl : xs.length ≤ 1048576 := by unfold szIntSS at hb; omega
    have hi : i < xs.length := by omega
    have ih := toIntSS_0 xs hb n (i + 1) (by omega)
    have e1 : CT.shape (.slice 1) (avIntS xs[i]) = true := rfl
    have e2 : aggQ (aoIntS []) = false := rfl
    have e3 : (avIntS xs[i]).elems = xs[i].map iv := rfl
    have e4 : AVal.own 1 (xs[i].map iv) = aoIntS xs[i] := rfl
    have hz : xs[i].length ≤ 1048576 := by have := totIntS_mem (List.getElem_mem hi); unfold szIntSS at hb; omega
    refine ll_toIntSS_0 _ _ _ ?_
    simp only [List.length_map, Int.toNat_natCast, dlt_true hi, d0_true, Bool.and_self, cond_true, getD_map avIntS hi, filled_len aoIntS (aoIntS []) (Nat.le_of_lt hi), filled_get aoIntS (aoIntS []) hi, blt_true hi, wrap_succ hi (by omega), e1, e2, e3, toIntS xs[i] hz, Option.bind_some, e4, Bool.not_false, filled_set aoIntS (aoIntS []) hi, ih]
theorem toIntSS (xs : List (List Int)) (hb : szIntSS xs ≤ 1048576) : Fl_toIntSS (xs.map avIntS) = some (xs.map aoIntS) := by
  have hl : xs.length ≤ 1048576 := by unfold szIntSS at hb; omega
  refine ul_toIntSS _ ?_
  have e := toIntSS_0 xs hb xs.length 0 (by omega)
  rw [filled_zero] at e
  have h0 : (0 : Int) ≤ (xs.length : Int) := by omega
  simp only [Int.natCast_zero] at e
  simp only [List.length_map, Int.toNat_natCast, h0, Int.le_refl, capB_8 (b := 24) hl (by omega), decide_true, Bool.and_self, cond_true, bnd_eq]
  rw [show (.own 1 [] : AVal) = (aoIntS []) from rfl, e]; rfl
theorem eqIntSS_0 (xs : List (List Int)) (hb : szIntSS xs ≤ 1048576) : ∀ n i : Nat, i + n = xs.length → Ll_eqIntSS_0 (xs.map avIntS) (xs.map avIntS) (i : Int) = some (.inr ())
  | 0, i, h => by
    refine ll_eqIntSS_0 _ _ _ ?_
    simp [show ¬ i < xs.length by omega]
  | n + 1, i, h => by
    have hl : xs.length ≤ 1048576 := by unfold szIntSS at hb; omega
    have hi : i < xs.length := by omega
    have ih := eqIntSS_0 xs hb n (i + 1) (by omega)
    have e1 : CT.shape (.slice 1) (avIntS xs[i]) = true := rfl
    have e3 : (avIntS xs[i]).elems = xs[i].map iv := rfl
    have hz : xs[i].length ≤ 1048576 := by have := totIntS_mem (List.getElem_mem hi); unfold szIntSS at hb; omega
    refine ll_eqIntSS_0 _ _ _ ?_
    simp only [List.length_map, Int.toNat_natCast, dlt_true hi, d0_true, Bool.and_self, cond_true, cond_false, getD_map avIntS hi, wrap_succ hi (by omega), e1, e3, eqIntS xs[i] hz, Option.bind_some, Bool.not_true, ih]
theorem eqIntSS (xs : List (List Int)) (hb : szIntSS xs ≤ 1048576) : Fl_eqIntSS (xs.map avIntS) (xs.map avIntS) = some true := by
  refine ul_eqIntSS _ _ ?_
  have e := eqIntSS_0 xs hb xs.length 0 (by omega)
  simp only [Int.natCast_zero] at e
  simp [e]
theorem fitIntSS : ∀ {xs : List AVal}, (∀ y ∈ xs, Fits ctx ty_S_int y) → ∃ ns : List (List Int), xs = ns.map avIntS ∧ ∀ x ∈ ns, x.length ≤ maxLen
  | [], _ => ⟨[], rfl, by simp⟩
  | y :: ys, h => by
    obtain ⟨x, rfl, l0, q⟩ := (h y (by simp)).slice' (sz := 1) (e := ty_int) (by kernel_rfl)
    obtain ⟨x, rfl⟩ := fitIntS q
    rw [List.length_map] at l0
    have hx : x.length ≤ maxLen := l0
    obtain ⟨ns, rfl, hn⟩ := fitIntSS (xs := ys) fun z hz => h z (by simp [hz])
    exact ⟨x :: ns, rfl, fun z hz => by rcases List.mem_cons.1 hz with rfl | hz; exact hx; exact hn z hz⟩
abbrev PartD := Int × ByteArray × List (List Int)
def avPart (x : PartD) : AVal := .agg [.int .i64 x.1, .str x.2.1, .ro false 1 (x.2.2.map avIntS)]
def aoPart (x : PartD) : AVal := .agg [.int .i64 x.1, .str x.2.1, .own 1 (x.2.2.map aoIntS)]
theorem asRo_Part (x : PartD) : asRo (aoPart x) = avPart x := by simp only [aoPart, avPart, asRo, asRoL, asRoL_map2 asRo_IntS]
theorem noRo_Part (x : PartD) : noRo (aoPart x) = true := by simp only [aoPart, noRo, noRoL, noRoL_map noRo_IntS, Bool.and_self]
theorem sh_Part (x : PartD) : shapes [.int .i64, .str, .slice 1] (((avPart x).cells.drop 0).take 3) = true := rfl
theorem c0_Part (x : PartD) : ((avPart x).cell 0).toInt = x.1 := rfl
theorem p0_Part (x : PartD) : CT.shape (.int .i64) ((avPart x).cell 0) = true := rfl
theorem c1_Part (x : PartD) : ((avPart x).cell 1).toStr = x.2.1 := rfl
theorem p1_Part (x : PartD) : CT.shape (.str) ((avPart x).cell 1) = true := rfl
theorem c2_Part (x : PartD) : ((avPart x).cell 2).elems = x.2.2.map avIntS := rfl
theorem p2_Part (x : PartD) : CT.shape (.slice 1) ((avPart x).cell 2) = true := rfl
def szPart (x : PartD) : Nat := x.2.1.size + szIntSS x.2.2
def wfPart (x : PartD) : Prop := (x.2.1.size ≤ maxLen) ∧ (x.2.2.length ≤ maxLen ∧ ∀ y ∈ x.2.2, y.length ≤ maxLen)
theorem tzPart (x : PartD) (l : Int) (hw : wfPart x) (h0 : 0 ≤ l) (h1 : l ≤ 1048576) : Fl_szPart x.1 x.2.1 (x.2.2.map avIntS) l = some (szR l (szPart x)) := by
  unfold wfPart at hw
  unfold szPart
  refine ul_szPart _ _ _ _ ?_
  obtain ⟨w0, w1⟩ := hw
  have b0 : 0 ≤ l ∧ l ≤ 1048576 := by exact ⟨h0, h1⟩
  obtain ⟨e0, e0'⟩ := szR_len b0.1 b0.2 w0
  by_cases g0 : szR l (x.2.1.size) < 0
  · simp only [e0, g0, decide_true, cond_true]
    rw [show szR l (x.2.1.size + szIntSS x.2.2) = -1 from by rw [show x.2.1.size + szIntSS x.2.2 = (x.2.1.size) + (szIntSS x.2.2) by omega]; exact szR_over g0 h0]
  have b1 : 0 ≤ szR l (x.2.1.size) ∧ szR l (x.2.1.size) ≤ 1048576 := by have := szR_le _ _ g0; omega
  have e1 := tzIntSS x.2.2 (szR l (x.2.1.size)) w1 b1.1 b1.2
  rw [szR_step g0] at e1
  by_cases g1 : szR l (x.2.1.size + szIntSS x.2.2) < 0
  · simp only [e0, g0, decide_false, cond_false, e0' g0, e1, g1, Option.bind_some, decide_true, cond_true]
    rw [szR_m1 g1 h0]
  simp only [e0, g0, decide_false, cond_false, e0' g0, e1, g1, Option.bind_some]
theorem toPart (x : PartD) (h : szPart x ≤ 1048576) : Fl_toPart x.1 x.2.1 (x.2.2.map avIntS) = some (x.1, x.2.1, (x.2.2.map aoIntS)) := by
  unfold szPart at h
  refine ul_toPart _ _ _ ?_
  simp only [toIntSS x.2.2 (by omega), Option.bind_some]
theorem eqPart (x : PartD) (h : szPart x ≤ 1048576) : Fl_eqPart x.1 x.2.1 (x.2.2.map avIntS) x.1 x.2.1 (x.2.2.map avIntS) = some true := by
  unfold szPart at h
  refine ul_eqPart _ _ _ _ _ _ ?_
  simp only [eqIntSS x.2.2 (by omega), Option.bind_some, decide_true, beq_self_eq_true, Bool.not_true, cond_false]
theorem fitPart {y : AVal} (h : Fits ctx ty_laws_Part y) : ∃ x : PartD, y = avPart x ∧ wfPart x := by
  obtain ⟨fs, rfl, g⟩ := h.struct' (us := [ty_int, ty_string, ty_S_S_int]) (by kernel_rfl)
  obtain ⟨v0, r, rfl, g0, g⟩ := g.cons'
  obtain ⟨v1, r, rfl, g1, g⟩ := g.cons'
  obtain ⟨v2, r, rfl, g2, g⟩ := g.cons'
  obtain rfl := g.nil'
  obtain ⟨a0, rfl, _⟩ := g0.int' (k := .i64) (by kernel_rfl)
  obtain ⟨a1, rfl, w1⟩ := g1.str' (by kernel_rfl)
  obtain ⟨x2, rfl, l2, q2⟩ := g2.slice' (sz := 1) (e := ty_S_int) (by kernel_rfl)
  obtain ⟨a2, rfl, w2⟩ := fitIntSS q2
  rw [List.length_map] at l2
  exact ⟨(a0, a1, a2), rfl, ⟨w1, ⟨l2, w2⟩⟩⟩
def totPart : List PartD → Nat
  | [] => 0
  | x :: r => szPart x + totPart r
theorem totPart_mem : ∀ {xs : List PartD} {x : PartD}, x ∈ xs → szPart x ≤ totPart xs
  | [], x, h => by simp at h
  | y :: r, x, h => by
    simp only [List.mem_cons] at h
    simp only [totPart]
    rcases h with rfl | h
    · omega
    · have := totPart_mem h; omega
def szPartS (xs : List PartD) : Nat := xs.length + totPart xs
def avPartS (xs : List PartD) : AVal := .ro false 3 (xs.map avPart)
def aoPartS (xs : List PartD) : AVal := .own 3 (xs.map aoPart)
theorem asRo_PartS (xs : List PartD) : asRo (aoPartS xs) = avPartS xs := by simp only [aoPartS, avPartS, asRo, asRoL_map2 asRo_Part]
theorem noRo_PartS (xs : List PartD) : noRo (aoPartS xs) = true := by simp only [aoPartS, noRo, noRoL_map noRo_Part]
theorem tzPartS_0 : ∀ (xs pre : List PartD) (l : Int), (pre ++ xs).length ≤ 1048576 → (∀ y ∈ xs, wfPart y) → 0 ≤ l → l ≤ 1048576 → Ll_szPartS_0 ((pre ++ xs).map avPart) l (pre.length : Int) = some (if szR l (totPart xs) < 0 then .inl (-1) else .inr (szR l (totPart xs)))
  | [], pre, l, hl, hx, h0, h1 => by
    refine ll_szPartS_0 _ _ _ ?_
    have : ¬ l < 0 := by omega
    simp [totPart, szR_zero h0, this]
  | x :: xs, pre, l, hl, hx, h0, h1 => by
    have hm := mid_len pre xs x
    rw [show totPart (x :: xs) = szPart x + totPart xs from rfl]
    refine ll_szPartS_0 _ _ _ ?_
    simp only [Int.toNat_natCast, List.length_map, dlt_true hm, d0_true, Bool.and_self, cond_true, map_mid, sh_Part, c0_Part, c1_Part, c2_Part, tzPart x l (hx x (by simp)) h0 h1, Option.bind_some, wrap_succ hm (by omega)]
    by_cases g : szR l (szPart x) < 0
    · simp only [g, szR_over g h0, decide_true, cond_true, show ((-1 : Int) < 0) from by omega, if_true]
    · have b := szR_le _ _ g
      have ih := tzPartS_0 xs (pre ++ [x]) (szR l (szPart x)) (by simpa using hl) (fun y hy => hx y (by simp [hy])) b.1 (by omega)
      simp only [List.append_assoc, List.cons_append, List.nil_append, show ∀ x : PartD, (pre ++ [x]).length = pre.length + 1 from fun x => by simp] at ih
      rw [szR_step g] at ih
      by_cases g2 : szR l (szPart x + totPart xs) < 0
      · rw [if_pos g2] at ih ⊢
        simp only [g, decide_false, cond_false, ih]
      · rw [if_neg g2] at ih ⊢
        simp only [g, decide_false, cond_false, ih]
theorem tzPartS (xs : List PartD) (l : Int) (hw : xs.length ≤ maxLen ∧ ∀ y ∈ xs, wfPart y) (h0 : 0 ≤ l) (h1 : l ≤ 1048576) : Fl_szPartS (xs.map avPart) l = some (szR l (szPartS xs)) := by
  obtain ⟨q1, q2⟩ := szR_len h0 h1 hw.1
  unfold szPartS
  refine ul_szPartS _ _ ?_
  simp only [List.length_map, q1]
  by_cases g : szR l xs.length < 0
  · simp only [g, szR_over g h0, decide_true, cond_true]
  · have b := szR_le _ _ g
    have hn := szR_nn g
    have e := tzPartS_0 xs [] (szR l xs.length) (by simpa using (by omega : xs.length ≤ 1048576)) hw.2 b.1 (by omega)
    simp only [List.nil_append, List.length_nil, Int.natCast_zero, szR_step g] at e
    by_cases g2 : szR l (xs.length + totPart xs) < 0
    · rw [if_pos g2] at e
      simp only [g, decide_false, cond_false, q2 g, e, Option.bind_some, Sum.elim_inl, szR_m1 g2 h0]
    · rw [if_neg g2] at e
      simp only [g, decide_false, cond_false, q2 g, e, Option.bind_some, Sum.elim_inr]
theorem toPartS_0 (xs : List PartD) (hb : szPartS xs ≤ 1048576) : ∀ n i : Nat, i + n = xs.length → Ll_toPartS_0 (xs.map avPart) (i : Int) (filled aoPart (aoPart (0, ByteArray.empty, [])) xs i) = some (xs.map aoPart)
  | 0, i, h => by
    refine ll_toPartS_0 _ _ _ ?_
    obtain rfl : i = xs.length := by omega
    simp [filled_all]
  | n + 1, i, h => by
    have hl : xs.length ≤ 1048576 := by unfold szPartS at hb; omega
    have hi : i < xs.length := by omega
    have ih := toPartS_0 xs hb n (i + 1) (by omega)
    have e2 : aggQ (aoPart (0, ByteArray.empty, [])) = true := rfl
    have e4 : Nat.ble 3 (aoPart (0, ByteArray.empty, [])).cells.length = true := rfl
    have e3 : AVal.agg (setMany (aoPart (0, ByteArray.empty, [])).cells 0 [.int .i64 xs[i].1, .str xs[i].2.1, .own 1 (xs[i].2.2.map aoIntS)]) = aoPart xs[i] := rfl
    have hz : szPart xs[i] ≤ 1048576 := by have := totPart_mem (List.getElem_mem hi); unfold szPartS at hb; omega
    refine ll_toPartS_0 _ _ _ ?_
    simp only [List.length_map, Int.toNat_natCast, dlt_true hi, d0_true, Bool.and_self, cond_true, getD_map avPart hi, filled_len aoPart (aoPart (0, ByteArray.empty, [])) (Nat.le_of_lt hi), filled_get aoPart (aoPart (0, ByteArray.empty, [])) hi, blt_true hi, wrap_succ hi (by omega), sh_Part, c0_Part, c1_Part, c2_Part, toPart xs[i] hz, Option.bind_some, e2, e4, e3, bnd_eq, filled_set aoPart (aoPart (0, ByteArray.empty, [])) hi, ih]
theorem toPartS (xs : List PartD) (hb : szPartS xs ≤ 1048576) : Fl_toPartS (xs.map avPart) = some (xs.map aoPart) := by
  have hl : xs.length ≤ 1048576 := by unfold szPartS at hb; omega
  refine ul_toPartS _ ?_
  have e := toPartS_0 xs hb xs.length 0 (by omega)
  rw [filled_zero] at e
  have h0 : (0 : Int) ≤ (xs.length : Int) := by omega
  simp only [Int.natCast_zero] at e
  simp only [List.length_map, Int.toNat_natCast, h0, Int.le_refl, capB_8 (b := 48) hl (by omega), decide_true, Bool.and_self, cond_true, bnd_eq]
  rw [show (.agg [.int .i64 0, .str ByteArray.empty, .own 1 []] : AVal) = (aoPart (0, ByteArray.empty, [])) from rfl, e]; rfl
theorem eqPartS_0 (xs : List PartD) (hb : szPartS xs ≤ 1048576) : ∀ n i : Nat, i + n = xs.length → Ll_eqPartS_0 (xs.map avPart) (xs.map avPart) (i : Int) = some (.inr ())
  | 0, i, h => by
    refine ll_eqPartS_0 _ _ _ ?_
    simp [show ¬ i < xs.length by omega]
  | n + 1, i, h => by
    have hl : xs.length ≤ 1048576 := by unfold szPartS at hb; omega
    have hi : i < xs.length := by omega
    have ih := eqPartS_0 xs hb n (i + 1) (by omega)
    have hz : szPart xs[i] ≤ 1048576 := by have := totPart_mem (List.getElem_mem hi); unfold szPartS at hb; omega
    refine ll_eqPartS_0 _ _ _ ?_
    simp only [List.length_map, Int.toNat_natCast, dlt_true hi, d0_true, Bool.and_self, cond_true, cond_false, getD_map avPart hi, wrap_succ hi (by omega), sh_Part, c0_Part, c1_Part, c2_Part, eqPart xs[i] hz, Option.bind_some, Bool.not_true, ih]
theorem eqPartS (xs : List PartD) (hb : szPartS xs ≤ 1048576) : Fl_eqPartS (xs.map avPart) (xs.map avPart) = some true := by
  refine ul_eqPartS _ _ ?_
  have e := eqPartS_0 xs hb xs.length 0 (by omega)
  simp only [Int.natCast_zero] at e
  simp [e]
theorem fitPartS : ∀ {xs : List AVal}, (∀ y ∈ xs, Fits ctx ty_laws_Part y) → ∃ ns : List PartD, xs = ns.map avPart ∧ ∀ x ∈ ns, wfPart x
  | [], _ => ⟨[], rfl, by simp⟩
  | y :: ys, h => by
    obtain ⟨x, rfl, hx⟩ := fitPart (h y (by simp))
    obtain ⟨ns, rfl, hn⟩ := fitPartS (xs := ys) fun z hz => h z (by simp [hz])
    exact ⟨x :: ns, rfl, fun z hz => by rcases List.mem_cons.1 hz with rfl | hz; exact hx; exact hn z hz⟩
abbrev GrammarD := ByteArray × List TokenD × List LevelD × List GRuleD × List PartD
def avGrammar (x : GrammarD) : AVal := .agg [.str x.1, .ro false 3 (x.2.1.map avToken), .ro false 2 (x.2.2.1.map avLevel), .ro false 2 (x.2.2.2.1.map avGRule), .ro false 3 (x.2.2.2.2.map avPart)]
def aoGrammar (x : GrammarD) : AVal := .agg [.str x.1, .own 3 (x.2.1.map avToken), .own 2 (x.2.2.1.map aoLevel), .own 2 (x.2.2.2.1.map aoGRule), .own 3 (x.2.2.2.2.map aoPart)]
theorem asRo_Grammar (x : GrammarD) : asRo (aoGrammar x) = avGrammar x := by simp only [aoGrammar, avGrammar, asRo, asRoL, asRoL_map2 asRo_GRule, asRoL_map2 asRo_Level, asRoL_map2 asRo_Part, asRoL_map2 asRo_Token]
theorem noRo_Grammar (x : GrammarD) : noRo (aoGrammar x) = true := by simp only [aoGrammar, noRo, noRoL, noRoL_map noRo_GRule, noRoL_map noRo_Level, noRoL_map noRo_Part, noRoL_map noRo_Token, Bool.and_self]
theorem sh_Grammar (x : GrammarD) : shapes [.str, .slice 3, .slice 2, .slice 2, .slice 3] (((avGrammar x).cells.drop 0).take 5) = true := rfl
theorem c0_Grammar (x : GrammarD) : ((avGrammar x).cell 0).toStr = x.1 := rfl
theorem p0_Grammar (x : GrammarD) : CT.shape (.str) ((avGrammar x).cell 0) = true := rfl
theorem c1_Grammar (x : GrammarD) : ((avGrammar x).cell 1).elems = x.2.1.map avToken := rfl
theorem p1_Grammar (x : GrammarD) : CT.shape (.slice 3) ((avGrammar x).cell 1) = true := rfl
theorem c2_Grammar (x : GrammarD) : ((avGrammar x).cell 2).elems = x.2.2.1.map avLevel := rfl
theorem p2_Grammar (x : GrammarD) : CT.shape (.slice 2) ((avGrammar x).cell 2) = true := rfl
theorem c3_Grammar (x : GrammarD) : ((avGrammar x).cell 3).elems = x.2.2.2.1.map avGRule := rfl
theorem p3_Grammar (x : GrammarD) : CT.shape (.slice 2) ((avGrammar x).cell 3) = true := rfl
theorem c4_Grammar (x : GrammarD) : ((avGrammar x).cell 4).elems = x.2.2.2.2.map avPart := rfl
theorem p4_Grammar (x : GrammarD) : CT.shape (.slice 3) ((avGrammar x).cell 4) = true := rfl
def szGrammar (x : GrammarD) : Nat := x.1.size + szTokenS x.2.1 + szLevelS x.2.2.1 + szGRuleS x.2.2.2.1 + szPartS x.2.2.2.2
def wfGrammar (x : GrammarD) : Prop := (x.1.size ≤ maxLen) ∧ (x.2.1.length ≤ maxLen ∧ ∀ y ∈ x.2.1, wfToken y) ∧ (x.2.2.1.length ≤ maxLen ∧ ∀ y ∈ x.2.2.1, wfLevel y) ∧ (x.2.2.2.1.length ≤ maxLen ∧ ∀ y ∈ x.2.2.2.1, wfGRule y) ∧ (x.2.2.2.2.length ≤ maxLen ∧ ∀ y ∈ x.2.2.2.2, wfPart y)
theorem tzGrammar (x : GrammarD) (l : Int) (hw : wfGrammar x) (h0 : 0 ≤ l) (h1 : l ≤ 1048576) : Fl_szGrammar x.1 (x.2.1.map avToken) (x.2.2.1.map avLevel) (x.2.2.2.1.map avGRule) (x.2.2.2.2.map avPart) l = some (szR l (szGrammar x)) := by
  unfold wfGrammar at hw
  unfold szGrammar
  refine ul_szGrammar _ _ _ _ _ _ ?_
  obtain ⟨w0, w1, w2, w3, w4⟩ := hw
  have b0 : 0 ≤ l ∧ l ≤ 1048576 := by exact ⟨h0, h1⟩
  obtain ⟨e0, e0'⟩ := szR_len b0.1 b0.2 w0
  by_cases g0 : szR l (x.1.size) < 0
  · simp only [e0, g0, decide_true, cond_true]
    rw [show szR l (x.1.size + szTokenS x.2.1 + szLevelS x.2.2.1 + szGRuleS x.2.2.2.1 + szPartS x.2.2.2.2) = -1 from by rw [show x.1.size + szTokenS x.2.1 + szLevelS x.2.2.1 + szGRuleS x.2.2.2.1 + szPartS x.2.2.2.2 = (x.1.size) + (szTokenS x.2.1 + szLevelS x.2.2.1 + szGRuleS x.2.2.2.1 + szPartS x.2.2.2.2) by omega]; exact szR_over g0 h0]
  have b1 : 0 ≤ szR l (x.1.size) ∧ szR l (x.1.size) ≤ 1048576 := by have := szR_le _ _ g0; omega
  have e1 := tzTokenS x.2.1 (szR l (x.1.size)) w1 b1.1 b1.2
  rw [szR_step g0] at e1
  by_cases g1 : szR l (x.1.size + szTokenS x.2.1) < 0
  · simp only [e0, g0, decide_false, cond_false, e0' g0, e1, g1, Option.bind_some, decide_true, cond_true]
    rw [show szR l (x.1.size + szTokenS x.2.1 + szLevelS x.2.2.1 + szGRuleS x.2.2.2.1 + szPartS x.2.2.2.2) = -1 from by rw [show x.1.size + szTokenS x.2.1 + szLevelS x.2.2.1 + szGRuleS x.2.2.2.1 + szPartS x.2.2.2.2 = (x.1.size + szTokenS x.2.1) + (szLevelS x.2.2.1 + szGRuleS x.2.2.2.1 + szPartS x.2.2.2.2) by omega]; exact szR_over g1 h0]
  have b2 : 0 ≤ szR l (x.1.size + szTokenS x.2.1) ∧ szR l (x.1.size + szTokenS x.2.1) ≤ 1048576 := by have := szR_le _ _ g1; omega
  have e2 := tzLevelS x.2.2.1 (szR l (x.1.size + szTokenS x.2.1)) w2 b2.1 b2.2
  rw [szR_step g1] at e2
  by_cases g2 : szR l (x.1.size + szTokenS x.2.1 + szLevelS x.2.2.1) < 0
  · simp only [e0, g0, decide_false, cond_false, e0' g0, e1, g1, Option.bind_some, decide_false, cond_false, e2, g2, Option.bind_some, decide_true, cond_true]
    rw [show szR l (x.1.size + szTokenS x.2.1 + szLevelS x.2.2.1 + szGRuleS x.2.2.2.1 + szPartS x.2.2.2.2) = -1 from by rw [show x.1.size + szTokenS x.2.1 + szLevelS x.2.2.1 + szGRuleS x.2.2.2.1 + szPartS x.2.2.2.2 = (x.1.size + szTokenS x.2.1 + szLevelS x.2.2.1) + (szGRuleS x.2.2.2.1 + szPartS x.2.2.2.2) by omega]; exact szR_over g2 h0]
  have b3 : 0 ≤ szR l (x.1.size + szTokenS x.2.1 + szLevelS x.2.2.1) ∧ szR l (x.1.size + szTokenS x.2.1 + szLevelS x.2.2.1) ≤ 1048576 := by have := szR_le _ _ g2; omega
  have e3 := tzGRuleS x.2.2.2.1 (szR l (x.1.size + szTokenS x.2.1 + szLevelS x.2.2.1)) w3 b3.1 b3.2
  rw [szR_step g2] at e3
  by_cases g3 : szR l (x.1.size + szTokenS x.2.1 + szLevelS x.2.2.1 + szGRuleS x.2.2.2.1) < 0
  · simp only [e0, g0, decide_false, cond_false, e0' g0, e1, g1, Option.bind_some, decide_false, cond_false, e2, g2, Option.bind_some, decide_false, cond_false, e3, g3, Option.bind_some, decide_true, cond_true]
    rw [show szR l (x.1.size + szTokenS x.2.1 + szLevelS x.2.2.1 + szGRuleS x.2.2.2.1 + szPartS x.2.2.2.2) = -1 from by rw [show x.1.size + szTokenS x.2.1 + szLevelS x.2.2.1 + szGRuleS x.2.2.2.1 + szPartS x.2.2.2.2 = (x.1.size + szTokenS x.2.1 + szLevelS x.2.2.1 + szGRuleS x.2.2.2.1) + (szPartS x.2.2.2.2) by omega]; exact szR_over g3 h0]
  have b4 : 0 ≤ szR l (x.1.size + szTokenS x.2.1 + szLevelS x.2.2.1 + szGRuleS x.2.2.2.1) ∧ szR l (x.1.size + szTokenS x.2.1 + szLevelS x.2.2.1 + szGRuleS x.2.2.2.1) ≤ 1048576 := by have := szR_le _ _ g3; omega
  have e4 := tzPartS x.2.2.2.2 (szR l (x.1.size + szTokenS x.2.1 + szLevelS x.2.2.1 + szGRuleS x.2.2.2.1)) w4 b4.1 b4.2
  rw [szR_step g3] at e4
  by_cases g4 : szR l (x.1.size + szTokenS x.2.1 + szLevelS x.2.2.1 + szGRuleS x.2.2.2.1 + szPartS x.2.2.2.2) < 0
  · simp only [e0, g0, decide_false, cond_false, e0' g0, e1, g1, Option.bind_some, decide_false, cond_false, e2, g2, Option.bind_some, decide_false, cond_false, e3, g3, Option.bind_some, decide_false, cond_false, e4, g4, Option.bind_some, decide_true, cond_true]
    rw [szR_m1 g4 h0]
  simp only [e0, g0, decide_false, cond_false, e0' g0, e1, g1, Option.bind_some, e2, g2, e3, g3, e4, g4]
theorem toGrammar (x : GrammarD) (h : szGrammar x ≤ 1048576) : Fl_toGrammar x.1 (x.2.1.map avToken) (x.2.2.1.map avLevel) (x.2.2.2.1.map avGRule) (x.2.2.2.2.map avPart) = some (x.1, (x.2.1.map avToken), (x.2.2.1.map aoLevel), (x.2.2.2.1.map aoGRule), (x.2.2.2.2.map aoPart)) := by
  unfold szGrammar at h
  refine ul_toGrammar _ _ _ _ _ ?_
  simp only [toTokenS x.2.1 (by omega), toLevelS x.2.2.1 (by omega), toGRuleS x.2.2.2.1 (by omega), toPartS x.2.2.2.2 (by omega), Option.bind_some]
theorem eqGrammar (x : GrammarD) (h : szGrammar x ≤ 1048576) : Fl_eqGrammar x.1 (x.2.1.map avToken) (x.2.2.1.map avLevel) (x.2.2.2.1.map avGRule) (x.2.2.2.2.map avPart) x.1 (x.2.1.map avToken) (x.2.2.1.map avLevel) (x.2.2.2.1.map avGRule) (x.2.2.2.2.map avPart) = some true := by
  unfold szGrammar at h
  refine ul_eqGrammar _ _ _ _ _ _ _ _ _ _ ?_
  simp only [eqTokenS x.2.1 (by omega), eqLevelS x.2.2.1 (by omega), eqGRuleS x.2.2.2.1 (by omega), eqPartS x.2.2.2.2 (by omega), Option.bind_some, decide_true, beq_self_eq_true, Bool.not_true, cond_false]
theorem fitGrammar {y : AVal} (h : Fits ctx ty_laws_Grammar y) : ∃ x : GrammarD, y = avGrammar x ∧ wfGrammar x := by
  obtain ⟨fs, rfl, g⟩ := h.struct' (us := [ty_string, ty_S_laws_Token, ty_S_laws_Level, ty_S_laws_GRule, ty_S_laws_Part]) (by kernel_rfl)
  obtain ⟨v0, r, rfl, g0, g⟩ := g.cons'
  obtain ⟨v1, r, rfl, g1, g⟩ := g.cons'
  obtain ⟨v2, r, rfl, g2, g⟩ := g.cons'
  obtain ⟨v3, r, rfl, g3, g⟩ := g.cons'
  obtain ⟨v4, r, rfl, g4, g⟩ := g.cons'
  obtain rfl := g.nil'
  obtain ⟨a0, rfl, w0⟩ := g0.str' (by kernel_rfl)
  obtain ⟨x1, rfl, l1, q1⟩ := g1.slice' (sz := 3) (e := ty_laws_Token) (by kernel_rfl)
  obtain ⟨a1, rfl, w1⟩ := fitTokenS q1
  rw [List.length_map] at l1
  obtain ⟨x2, rfl, l2, q2⟩ := g2.slice' (sz := 2) (e := ty_laws_Level) (by kernel_rfl)
  obtain ⟨a2, rfl, w2⟩ := fitLevelS q2
  rw [List.length_map] at l2
  obtain ⟨x3, rfl, l3, q3⟩ := g3.slice' (sz := 2) (e := ty_laws_GRule) (by kernel_rfl)
  obtain ⟨a3, rfl, w3⟩ := fitGRuleS q3
  rw [List.length_map] at l3
  obtain ⟨x4, rfl, l4, q4⟩ := g4.slice' (sz := 3) (e := ty_laws_Part) (by kernel_rfl)
  obtain ⟨a4, rfl, w4⟩ := fitPartS q4
  rw [List.length_map] at l4
  exact ⟨(a0, a1, a2, a3, a4), rfl, ⟨w0, ⟨l1, w1⟩, ⟨l2, w2⟩, ⟨l3, w3⟩, ⟨l4, w4⟩⟩⟩
end Go.Proofs.Ytmbnloccmnclnaa
