/- Plain data of the program, and what the helpers of the laws do to it: sizes, copies, equality; where it is not too large. -/
import Derived.Test.YtmbnloccmnclnaaDoorUx
import Derived.Test.YtmbnloccmnclnaaDoorTShrink
import Derived.Test.YtmbnloccmnclnaaDoorTWiden
namespace Go.Proofs.YtmbnloccmnclnaaDoor
open Go.VK AVal
/-! Texts and truth values in rows -/
def sv (s : ByteArray) : AVal := .str s
def bv (b : Bool) : AVal := .bool b
theorem asRo_sv (s : ByteArray) : asRo (sv s) = sv s := by simp [sv, asRo]
theorem noRo_sv (s : ByteArray) : noRo (sv s) = true := by simp [sv, noRo]
theorem asRo_bv (s : Bool) : asRo (bv s) = bv s := by simp [bv, asRo]
theorem noRo_bv (s : Bool) : noRo (bv s) = true := by simp [bv, noRo]
theorem asRoL_map2 {α : Type} {f g : α → AVal} (hf : ∀ x, asRo (f x) = g x) : ∀ xs : List α, asRoL (xs.map f) = xs.map g
  | [] => by simp [asRoL]
  | x :: xs => by simp only [List.map_cons, asRoL, hf, asRoL_map2 hf xs]
theorem szR_len {l : Int} {s : Nat} (h0 : 0 ≤ l) (h1 : l ≤ 900000000) (hs : s ≤ maxLen) : (decide (IntKind.wrap .i64 (l - (s : Int)) < 0) = decide (szR l s < 0)) ∧ (¬ szR l s < 0 → IntKind.wrap .i64 (l - (s : Int)) = szR l s) := by
  unfold maxLen at hs
  rw [wrap64 (by omega) (by omega)]
  unfold szR
  by_cases g : l < (s : Int)
  · have : l - (s : Int) < 0 := by omega
    simp [g, this]
  · have : ¬ l - (s : Int) < 0 := by omega
    simp [g, this]
theorem szR_zero {l : Int} (h : 0 ≤ l) : szR l 0 = l := by unfold szR; split <;> omega
theorem capB_8 {n b : Nat} (h : n ≤ 900000000) (hb : b ≤ 1000) : capB n b = true := capB_le (Nat.le_trans (Nat.mul_le_mul h hb) (by omega))
/-- numbers, one after another -/
def seqI : Int → Nat → List Int
  | _, 0 => []
  | k, n + 1 => k :: seqI (k + 1) n
theorem seqI_len : ∀ (k : Int) (n : Nat), (seqI k n).length = n
  | _, 0 => rfl
  | k, n + 1 => by simp [seqI, seqI_len]
theorem marks_seq : ∀ (k : Int) (n : Nat), marks k n = (seqI k n).map iv
  | _, 0 => rfl
  | k, n + 1 => by simp [seqI, marks, marks_seq]
abbrev ActD := Int × Int
def avAct (x : ActD) : AVal := .agg [.int .i64 x.1, .int .i64 x.2]
theorem asRo_Act (x : ActD) : asRo (avAct x) = avAct x := by simp only [avAct, asRo, asRoL]
theorem noRo_Act (x : ActD) : noRo (avAct x) = true := by simp only [avAct, noRo, noRoL, Bool.and_self]
theorem sh_Act (x : ActD) : shapes [.int .i64, .int .i64] (((avAct x).cells.drop 0).take 2) = true := rfl
theorem c0_Act (x : ActD) : ((avAct x).cell 0).toInt = x.1 := rfl
theorem p0_Act (x : ActD) : CT.shape (.int .i64) ((avAct x).cell 0) = true := rfl
theorem c1_Act (x : ActD) : ((avAct x).cell 1).toInt = x.2 := rfl
theorem p1_Act (x : ActD) : CT.shape (.int .i64) ((avAct x).cell 1) = true := rfl
theorem toAct (x : ActD) : Fl_toAct x.1 x.2 = some (x.1, x.2) := ul_toAct _ _ rfl
theorem eqAct (x : ActD) : Fl_eqAct x.1 x.2 x.1 x.2 = some true := ul_eqAct _ _ _ _ (by simp only [decide_true, beq_self_eq_true, Bool.not_true, cond_false])
theorem fitAct {y : AVal} (h : Fits ctx ty_laws_Act y) : ∃ x : ActD, y = avAct x := by
  obtain ⟨fs, rfl, g⟩ := h.struct' (us := [ty_int, ty_int]) (by kernel_rfl)
  obtain ⟨v0, r, rfl, g0, g⟩ := g.cons'
  obtain ⟨v1, r, rfl, g1, g⟩ := g.cons'
  obtain rfl := g.nil'
  obtain ⟨a0, rfl, _⟩ := g0.int' (k := .i64) (by kernel_rfl)
  obtain ⟨a1, rfl, _⟩ := g1.int' (k := .i64) (by kernel_rfl)
  exact ⟨(a0, a1), rfl⟩
def avActS (xs : List ActD) : AVal := .ro false 2 (xs.map avAct)
def aoActS (xs : List ActD) : AVal := .own 2 (xs.map avAct)
theorem asRo_ActS (xs : List ActD) : asRo (aoActS xs) = avActS xs := by simp only [aoActS, avActS, asRo, asRoL_map2 asRo_Act]
theorem noRo_ActS (xs : List ActD) : noRo (aoActS xs) = true := by simp only [aoActS, noRo, noRoL_map noRo_Act]
theorem tzActS (xs : List ActD) (l : Int) (hl : xs.length ≤ maxLen) (h0 : 0 ≤ l) (h1 : l ≤ 900000000) : Fl_szActS (xs.map avAct) l = some (szR l xs.length) := by
  unfold maxLen at hl
  refine ul_szActS _ _ ?_
  have e : IntKind.wrap .i64 (l - (xs.length : Int)) = l - (xs.length : Int) := wrap64 (by omega) (by omega)
  unfold szR
  by_cases g : l < (xs.length : Int)
  · have : l - (xs.length : Int) < 0 := by omega
    simp [e, g, this]
  · have : ¬ l - (xs.length : Int) < 0 := by omega
    simp [e, g, this]
theorem toActS_0 (xs : List ActD) (hb : xs.length ≤ 900000000) : ∀ n i : Nat, i + n = xs.length → Ll_toActS_0 (xs.map avAct) (i : Int) (filled avAct (avAct (0, 0)) xs i) = some (xs.map avAct)
  | 0, i, h => by
    refine ll_toActS_0 _ _ _ ?_
    obtain rfl : i = xs.length := by omega
    simp [filled_all]
  | n + 1, i, h => by
    have hl := hb
    have hi : i < xs.length := by omega
    have ih := toActS_0 xs hb n (i + 1) (by omega)
    have e2 : aggQ (avAct (0, 0)) = true := rfl
    have e4 : Nat.ble 2 (avAct (0, 0)).cells.length = true := rfl
    have e3 : AVal.agg (setMany (avAct (0, 0)).cells 0 [.int .i64 xs[i].1, .int .i64 xs[i].2]) = avAct xs[i] := rfl
    refine ll_toActS_0 _ _ _ ?_
    simp only [List.length_map, Int.toNat_natCast, dlt_true hi, d0_true, Bool.and_self, cond_true, getD_map avAct hi, filled_len avAct (avAct (0, 0)) (Nat.le_of_lt hi), filled_get avAct (avAct (0, 0)) hi, blt_true hi, wrap_succ hi (by omega), sh_Act, c0_Act, c1_Act, toAct, Option.bind_some, e2, e4, e3, bnd_eq, filled_set avAct (avAct (0, 0)) hi, ih]
theorem toActS (xs : List ActD) (hb : xs.length ≤ 900000000) : Fl_toActS (xs.map avAct) = some (xs.map avAct) := by
  have hl := hb
  refine ul_toActS _ ?_
  have e := toActS_0 xs hb xs.length 0 (by omega)
  rw [filled_zero] at e
  have h0 : (0 : Int) ≤ (xs.length : Int) := by omega
  simp only [Int.natCast_zero] at e
  simp only [List.length_map, Int.toNat_natCast, h0, Int.le_refl, capB_8 (b := 16) hl (by omega), decide_true, Bool.and_self, cond_true, bnd_eq]
  rw [show (.agg [.int .i64 0, .int .i64 0] : AVal) = (avAct (0, 0)) from rfl, e]; rfl
theorem eqActS_0 (xs : List ActD) (hb : xs.length ≤ 900000000) : ∀ n i : Nat, i + n = xs.length → Ll_eqActS_0 (xs.map avAct) (xs.map avAct) (i : Int) = some (.inr ())
  | 0, i, h => by
    refine ll_eqActS_0 _ _ _ ?_
    simp [show ¬ i < xs.length by omega]
  | n + 1, i, h => by
    have hl := hb
    have hi : i < xs.length := by omega
    have ih := eqActS_0 xs hb n (i + 1) (by omega)
    refine ll_eqActS_0 _ _ _ ?_
    simp only [List.length_map, Int.toNat_natCast, dlt_true hi, d0_true, Bool.and_self, cond_true, cond_false, getD_map avAct hi, wrap_succ hi (by omega), sh_Act, c0_Act, c1_Act, eqAct, Option.bind_some, Bool.not_true, ih]
theorem eqActS (xs : List ActD) (hb : xs.length ≤ 900000000) : Fl_eqActS (xs.map avAct) (xs.map avAct) = some true := by
  refine ul_eqActS _ _ ?_
  have e := eqActS_0 xs hb xs.length 0 (by omega)
  simp only [Int.natCast_zero] at e
  simp [e]
theorem fitActS : ∀ {xs : List AVal}, (∀ y ∈ xs, Fits ctx ty_laws_Act y) → ∃ ns : List ActD, xs = ns.map avAct
  | [], _ => ⟨[], rfl⟩
  | y :: ys, h => by
    obtain ⟨x, rfl⟩ := fitAct (h y (by simp))
    obtain ⟨ns, rfl⟩ := fitActS (xs := ys) fun z hz => h z (by simp [hz])
    exact ⟨x :: ns, rfl⟩
def totActS : List (List ActD) → Nat
  | [] => 0
  | x :: r => x.length + totActS r
theorem totActS_mem : ∀ {xs : List (List ActD)} {x : List ActD}, x ∈ xs → x.length ≤ totActS xs
  | [], x, h => by simp at h
  | y :: r, x, h => by
    simp only [List.mem_cons] at h
    simp only [totActS]
    rcases h with rfl | h
    · omega
    · have := totActS_mem h; omega
def szActSS (xs : List (List ActD)) : Nat := xs.length + totActS xs
def avActSS (xs : List (List ActD)) : AVal := .ro false 1 (xs.map avActS)
def aoActSS (xs : List (List ActD)) : AVal := .own 1 (xs.map aoActS)
theorem asRo_ActSS (xs : List (List ActD)) : asRo (aoActSS xs) = avActSS xs := by simp only [aoActSS, avActSS, asRo, asRoL_map2 asRo_ActS]
theorem noRo_ActSS (xs : List (List ActD)) : noRo (aoActSS xs) = true := by simp only [aoActSS, noRo, noRoL_map noRo_ActS]
theorem tzActSS_0 : ∀ (xs pre : List (List ActD)) (l : Int), (pre ++ xs).length ≤ 900000000 → (∀ y ∈ xs, y.length ≤ maxLen) → 0 ≤ l → l ≤ 900000000 → Ll_szActSS_0 ((pre ++ xs).map avActS) l (pre.length : Int) = some (if szR l (totActS xs) < 0 then .inl (-1) else .inr (szR l (totActS xs)))
  | [], pre, l, hl, hx, h0, h1 => by
    refine ll_szActSS_0 _ _ _ ?_
    have : ¬ l < 0 := by omega
    simp [totActS, szR_zero h0, this]
  | x :: xs, pre, l, hl, hx, h0, h1 => by
    have hm := mid_len pre xs x
    rw [show totActS (x :: xs) = x.length + totActS xs from rfl]
    have hsh : CT.shape (.slice 2) (avActS x) = true := rfl
    have hto : (avActS x).elems = x.map avAct := rfl
    refine ll_szActSS_0 _ _ _ ?_
    simp only [Int.toNat_natCast, List.length_map, dlt_true hm, d0_true, Bool.and_self, cond_true, map_mid, hsh, hto, tzActS x l (hx x (by simp)) h0 h1, Option.bind_some, wrap_succ hm (by omega)]
    by_cases g : szR l (x.length) < 0
    · simp only [g, szR_over g h0, decide_true, cond_true, show ((-1 : Int) < 0) from by omega, if_true]
    · have b := szR_le _ _ g
      have ih := tzActSS_0 xs (pre ++ [x]) (szR l (x.length)) (by simpa using hl) (fun y hy => hx y (by simp [hy])) b.1 (by omega)
      simp only [List.append_assoc, List.cons_append, List.nil_append, show ∀ x : List ActD, (pre ++ [x]).length = pre.length + 1 from fun x => by simp] at ih
      rw [szR_step g] at ih
      by_cases g2 : szR l (x.length + totActS xs) < 0
      · rw [if_pos g2] at ih ⊢
        simp only [g, decide_false, cond_false, ih]
      · rw [if_neg g2] at ih ⊢
        simp only [g, decide_false, cond_false, ih]
theorem tzActSS (xs : List (List ActD)) (l : Int) (hw : xs.length ≤ maxLen ∧ ∀ y ∈ xs, y.length ≤ maxLen) (h0 : 0 ≤ l) (h1 : l ≤ 900000000) : Fl_szActSS (xs.map avActS) l = some (szR l (szActSS xs)) := by
  obtain ⟨q1, q2⟩ := szR_len h0 h1 hw.1
  unfold szActSS
  refine ul_szActSS _ _ ?_
  simp only [List.length_map, q1]
  by_cases g : szR l xs.length < 0
  · simp only [g, szR_over g h0, decide_true, cond_true]
  · have b := szR_le _ _ g
    have hn := szR_nn g
    have e := tzActSS_0 xs [] (szR l xs.length) (by simpa using (by omega : xs.length ≤ 900000000)) hw.2 b.1 (by omega)
    simp only [List.nil_append, List.length_nil, Int.natCast_zero, szR_step g] at e
    by_cases g2 : szR l (xs.length + totActS xs) < 0
    · rw [if_pos g2] at e
      simp only [g, decide_false, cond_false, q2 g, e, Option.bind_some, Sum.elim_inl, szR_m1 g2 h0]
    · rw [if_neg g2] at e
      simp only [g, decide_false, cond_false, q2 g, e, Option.bind_some, Sum.elim_inr]
theorem toActSS_0 (xs : List (List ActD)) (hb : szActSS xs ≤ 900000000) : ∀ n i : Nat, i + n = xs.length → Ll_toActSS_0 (xs.map avActS) (i : Int) (filled aoActS (aoActS []) xs i) = some (xs.map aoActS)
  | 0, i, h => by
    refine ll_toActSS_0 _ _ _ ?_
    obtain rfl : i = xs.length := by omega
    simp [filled_all]
  | n + 1, i, h => by
    have hl : xs.length ≤ 900000000 := by unfold szActSS at hb; omega
    have hi : i < xs.length := by omega
    have ih := toActSS_0 xs hb n (i + 1) (by omega)
    have e1 : CT.shape (.slice 2) (avActS xs[i]) = true := rfl
    have e2 : aggQ (aoActS []) = false := rfl
    have e3 : (avActS xs[i]).elems = xs[i].map avAct := rfl
    have e4 : AVal.own 2 (xs[i].map avAct) = aoActS xs[i] := rfl
    have hz : xs[i].length ≤ 900000000 := by have := totActS_mem (List.getElem_mem hi); unfold szActSS at hb; omega
    refine ll_toActSS_0 _ _ _ ?_
    simp only [List.length_map, Int.toNat_natCast, dlt_true hi, d0_true, Bool.and_self, cond_true, getD_map avActS hi, filled_len aoActS (aoActS []) (Nat.le_of_lt hi), filled_get aoActS (aoActS []) hi, blt_true hi, wrap_succ hi (by omega), e1, e2, e3, toActS xs[i] hz, Option.bind_some, e4, Bool.not_false, filled_set aoActS (aoActS []) hi, ih]
theorem toActSS (xs : List (List ActD)) (hb : szActSS xs ≤ 900000000) : Fl_toActSS (xs.map avActS) = some (xs.map aoActS) := by
  have hl : xs.length ≤ 900000000 := by unfold szActSS at hb; omega
  refine ul_toActSS _ ?_
  have e := toActSS_0 xs hb xs.length 0 (by omega)
  rw [filled_zero] at e
  have h0 : (0 : Int) ≤ (xs.length : Int) := by omega
  simp only [Int.natCast_zero] at e
  simp only [List.length_map, Int.toNat_natCast, h0, Int.le_refl, capB_8 (b := 24) hl (by omega), decide_true, Bool.and_self, cond_true, bnd_eq]
  rw [show (.own 2 [] : AVal) = (aoActS []) from rfl, e]; rfl
theorem eqActSS_0 (xs : List (List ActD)) (hb : szActSS xs ≤ 900000000) : ∀ n i : Nat, i + n = xs.length → Ll_eqActSS_0 (xs.map avActS) (xs.map avActS) (i : Int) = some (.inr ())
  | 0, i, h => by
    refine ll_eqActSS_0 _ _ _ ?_
    simp [show ¬ i < xs.length by omega]
  | n + 1, i, h => by
    have hl : xs.length ≤ 900000000 := by unfold szActSS at hb; omega
    have hi : i < xs.length := by omega
    have ih := eqActSS_0 xs hb n (i + 1) (by omega)
    have e1 : CT.shape (.slice 2) (avActS xs[i]) = true := rfl
    have e3 : (avActS xs[i]).elems = xs[i].map avAct := rfl
    have hz : xs[i].length ≤ 900000000 := by have := totActS_mem (List.getElem_mem hi); unfold szActSS at hb; omega
    refine ll_eqActSS_0 _ _ _ ?_
    simp only [List.length_map, Int.toNat_natCast, dlt_true hi, d0_true, Bool.and_self, cond_true, cond_false, getD_map avActS hi, wrap_succ hi (by omega), e1, e3, eqActS xs[i] hz, Option.bind_some, Bool.not_true, ih]
theorem eqActSS (xs : List (List ActD)) (hb : szActSS xs ≤ 900000000) : Fl_eqActSS (xs.map avActS) (xs.map avActS) = some true := by
  refine ul_eqActSS _ _ ?_
  have e := eqActSS_0 xs hb xs.length 0 (by omega)
  simp only [Int.natCast_zero] at e
  simp [e]
theorem fitActSS : ∀ {xs : List AVal}, (∀ y ∈ xs, Fits ctx ty_S_laws_Act y) → ∃ ns : List (List ActD), xs = ns.map avActS ∧ ∀ x ∈ ns, x.length ≤ maxLen
  | [], _ => ⟨[], rfl, by simp⟩
  | y :: ys, h => by
    obtain ⟨x, rfl, l0, q⟩ := (h y (by simp)).slice' (sz := 2) (e := ty_laws_Act) (by kernel_rfl)
    obtain ⟨x, rfl⟩ := fitActS q
    rw [List.length_map] at l0
    have hx : x.length ≤ maxLen := l0
    obtain ⟨ns, rfl, hn⟩ := fitActSS (xs := ys) fun z hz => h z (by simp [hz])
    exact ⟨x :: ns, rfl, fun z hz => by rcases List.mem_cons.1 hz with rfl | hz; exact hx; exact hn z hz⟩
def avIntS (xs : List Int) : AVal := .ro false 1 (xs.map iv)
def aoIntS (xs : List Int) : AVal := .own 1 (xs.map iv)
theorem asRo_IntS (xs : List Int) : asRo (aoIntS xs) = avIntS xs := by simp only [aoIntS, avIntS, asRo, asRoL_map2 asRo_iv]
theorem noRo_IntS (xs : List Int) : noRo (aoIntS xs) = true := by simp only [aoIntS, noRo, noRoL_map noRo_iv]
theorem tzIntS (xs : List Int) (l : Int) (hl : xs.length ≤ maxLen) (h0 : 0 ≤ l) (h1 : l ≤ 900000000) : Fl_szIntS (xs.map iv) l = some (szR l xs.length) := by
  unfold maxLen at hl
  refine ul_szIntS _ _ ?_
  have e : IntKind.wrap .i64 (l - (xs.length : Int)) = l - (xs.length : Int) := wrap64 (by omega) (by omega)
  unfold szR
  by_cases g : l < (xs.length : Int)
  · have : l - (xs.length : Int) < 0 := by omega
    simp [e, g, this]
  · have : ¬ l - (xs.length : Int) < 0 := by omega
    simp [e, g, this]
theorem toIntS_0 (xs : List Int) (hb : xs.length ≤ 900000000) : ∀ n i : Nat, i + n = xs.length → Ll_toIntS_0 (xs.map iv) (i : Int) (filled iv (iv 0) xs i) = some (xs.map iv)
  | 0, i, h => by
    refine ll_toIntS_0 _ _ _ ?_
    obtain rfl : i = xs.length := by omega
    simp [filled_all]
  | n + 1, i, h => by
    have hl := hb
    have hi : i < xs.length := by omega
    have ih := toIntS_0 xs hb n (i + 1) (by omega)
    have e1 : CT.shape (.int .i64) (iv xs[i]) = true := rfl
    have e2 : aggQ (iv 0) = false := rfl
    have e3 : AVal.int .i64 (iv xs[i]).toInt = iv xs[i] := rfl
    refine ll_toIntS_0 _ _ _ ?_
    simp only [List.length_map, Int.toNat_natCast, dlt_true hi, d0_true, Bool.and_self, cond_true, getD_map iv hi, filled_len iv (iv 0) (Nat.le_of_lt hi), filled_get iv (iv 0) hi, blt_true hi, wrap_succ hi (by omega), e1, e2, e3, Bool.not_false, filled_set iv (iv 0) hi, ih]
theorem toIntS (xs : List Int) (hb : xs.length ≤ 900000000) : Fl_toIntS (xs.map iv) = some (xs.map iv) := by
  have hl := hb
  refine ul_toIntS _ ?_
  have e := toIntS_0 xs hb xs.length 0 (by omega)
  rw [filled_zero] at e
  have h0 : (0 : Int) ≤ (xs.length : Int) := by omega
  simp only [Int.natCast_zero] at e
  simp only [List.length_map, Int.toNat_natCast, h0, Int.le_refl, capB_8 (b := 8) hl (by omega), decide_true, Bool.and_self, cond_true, bnd_eq]
  rw [show (.int .i64 0 : AVal) = (iv 0) from rfl, e]; rfl
theorem eqIntS_0 (xs : List Int) (hb : xs.length ≤ 900000000) : ∀ n i : Nat, i + n = xs.length → Ll_eqIntS_0 (xs.map iv) (xs.map iv) (i : Int) = some (.inr ())
  | 0, i, h => by
    refine ll_eqIntS_0 _ _ _ ?_
    simp [show ¬ i < xs.length by omega]
  | n + 1, i, h => by
    have hl := hb
    have hi : i < xs.length := by omega
    have ih := eqIntS_0 xs hb n (i + 1) (by omega)
    have e1 : CT.shape (.int .i64) (iv xs[i]) = true := rfl
    refine ll_eqIntS_0 _ _ _ ?_
    simp only [List.length_map, Int.toNat_natCast, dlt_true hi, d0_true, Bool.and_self, cond_true, cond_false, getD_map iv hi, wrap_succ hi (by omega), e1, decide_true, beq_self_eq_true, Bool.not_true, ih]
theorem eqIntS (xs : List Int) (hb : xs.length ≤ 900000000) : Fl_eqIntS (xs.map iv) (xs.map iv) = some true := by
  refine ul_eqIntS _ _ ?_
  have e := eqIntS_0 xs hb xs.length 0 (by omega)
  simp only [Int.natCast_zero] at e
  simp [e]
theorem fitIntS : ∀ {xs : List AVal}, (∀ y ∈ xs, Fits ctx ty_int y) → ∃ ns : List Int, xs = ns.map iv
  | [], _ => ⟨[], rfl⟩
  | y :: ys, h => by
    obtain ⟨x, rfl, _⟩ := (h y (by simp)).int' (k := .i64) (by kernel_rfl)
    obtain ⟨ns, rfl⟩ := fitIntS (xs := ys) fun z hz => h z (by simp [hz])
    exact ⟨x :: ns, rfl⟩
def totIntS : List (List Int) → Nat
  | [] => 0
  | x :: r => x.length + totIntS r
theorem totIntS_mem : ∀ {xs : List (List Int)} {x : List Int}, x ∈ xs → x.length ≤ totIntS xs
  | [], x, h => by simp at h
  | y :: r, x, h => by
    simp only [List.mem_cons] at h
    simp only [totIntS]
    rcases h with rfl | h
    · omega
    · have := totIntS_mem h; omega
def szIntSS (xs : List (List Int)) : Nat := xs.length + totIntS xs
def avIntSS (xs : List (List Int)) : AVal := .ro false 1 (xs.map avIntS)
def aoIntSS (xs : List (List Int)) : AVal := .own 1 (xs.map aoIntS)
theorem asRo_IntSS (xs : List (List Int)) : asRo (aoIntSS xs) = avIntSS xs := by simp only [aoIntSS, avIntSS, asRo, asRoL_map2 asRo_IntS]
theorem noRo_IntSS (xs : List (List Int)) : noRo (aoIntSS xs) = true := by simp only [aoIntSS, noRo, noRoL_map noRo_IntS]
theorem tzIntSS_0 : ∀ (xs pre : List (List Int)) (l : Int), (pre ++ xs).length ≤ 900000000 → (∀ y ∈ xs, y.length ≤ maxLen) → 0 ≤ l → l ≤ 900000000 → Ll_szIntSS_0 ((pre ++ xs).map avIntS) l (pre.length : Int) = some (if szR l (totIntS xs) < 0 then .inl (-1) else .inr (szR l (totIntS xs)))
  | [], pre, l, hl, hx, h0, h1 => by
    refine ll_szIntSS_0 _ _ _ ?_
    have : ¬ l < 0 := by omega
    simp [totIntS, szR_zero h0, this]
  | x :: xs, pre, l, hl, hx, h0, h1 => by
    have hm := mid_len pre xs x
    rw [show totIntS (x :: xs) = x.length + totIntS xs from rfl]
    have hsh : CT.shape (.slice 1) (avIntS x) = true := rfl
    have hto : (avIntS x).elems = x.map iv := rfl
    refine ll_szIntSS_0 _ _ _ ?_
    simp only [Int.toNat_natCast, List.length_map, dlt_true hm, d0_true, Bool.and_self, cond_true, map_mid, hsh, hto, tzIntS x l (hx x (by simp)) h0 h1, Option.bind_some, wrap_succ hm (by omega)]
    by_cases g : szR l (x.length) < 0
    · simp only [g, szR_over g h0, decide_true, cond_true, show ((-1 : Int) < 0) from by omega, if_true]
    · have b := szR_le _ _ g
      have ih := tzIntSS_0 xs (pre ++ [x]) (szR l (x.length)) (by simpa using hl) (fun y hy => hx y (by simp [hy])) b.1 (by omega)
      simp only [List.append_assoc, List.cons_append, List.nil_append, show ∀ x : List Int, (pre ++ [x]).length = pre.length + 1 from fun x => by simp] at ih
      rw [szR_step g] at ih
      by_cases g2 : szR l (x.length + totIntS xs) < 0
      · rw [if_pos g2] at ih ⊢
        simp only [g, decide_false, cond_false, ih]
      · rw [if_neg g2] at ih ⊢
        simp only [g, decide_false, cond_false, ih]
theorem tzIntSS (xs : List (List Int)) (l : Int) (hw : xs.length ≤ maxLen ∧ ∀ y ∈ xs, y.length ≤ maxLen) (h0 : 0 ≤ l) (h1 : l ≤ 900000000) : Fl_szIntSS (xs.map avIntS) l = some (szR l (szIntSS xs)) := by
  obtain ⟨q1, q2⟩ := szR_len h0 h1 hw.1
  unfold szIntSS
  refine ul_szIntSS _ _ ?_
  simp only [List.length_map, q1]
  by_cases g : szR l xs.length < 0
  · simp only [g, szR_over g h0, decide_true, cond_true]
  · have b := szR_le _ _ g
    have hn := szR_nn g
    have e := tzIntSS_0 xs [] (szR l xs.length) (by simpa using (by omega : xs.length ≤ 900000000)) hw.2 b.1 (by omega)
    simp only [List.nil_append, List.length_nil, Int.natCast_zero, szR_step g] at e
    by_cases g2 : szR l (xs.length + totIntS xs) < 0
    · rw [if_pos g2] at e
      simp only [g, decide_false, cond_false, q2 g, e, Option.bind_some, Sum.elim_inl, szR_m1 g2 h0]
    · rw [if_neg g2] at e
      simp only [g, decide_false, cond_false, q2 g, e, Option.bind_some, Sum.elim_inr]
theorem toIntSS_0 (xs : List (List Int)) (hb : szIntSS xs ≤ 900000000) : ∀ n i : Nat, i + n = xs.length → Ll_toIntSS_0 (xs.map avIntS) (i : Int) (filled aoIntS (aoIntS []) xs i) = some (xs.map aoIntS)
  | 0, i, h => by
    refine ll_toIntSS_0 _ _ _ ?_
    obtain rfl : i = xs.length := by omega
    simp [filled_all]
  | n + 1, i, h => by
    have hl : xs.length ≤ 900000000 := by unfold szIntSS at hb; omega
    have hi : i < xs.length := by omega
    have ih := toIntSS_0 xs hb n (i + 1) (by omega)
    have e1 : CT.shape (.slice 1) (avIntS xs[i]) = true := rfl
    have e2 : aggQ (aoIntS []) = false := rfl
    have e3 : (avIntS xs[i]).elems = xs[i].map iv := rfl
    have e4 : AVal.own 1 (xs[i].map iv) = aoIntS xs[i] := rfl
    have hz : xs[i].length ≤ 900000000 := by have := totIntS_mem (List.getElem_mem hi); unfold szIntSS at hb; omega
    refine ll_toIntSS_0 _ _ _ ?_
    simp only [List.length_map, Int.toNat_natCast, dlt_true hi, d0_true, Bool.and_self, cond_true, getD_map avIntS hi, filled_len aoIntS (aoIntS []) (Nat.le_of_lt hi), filled_get aoIntS (aoIntS []) hi, blt_true hi, wrap_succ hi (by omega), e1, e2, e3, toIntS xs[i] hz, Option.bind_some, e4, Bool.not_false, filled_set aoIntS (aoIntS []) hi, ih]
theorem toIntSS (xs : List (List Int)) (hb : szIntSS xs ≤ 900000000) : Fl_toIntSS (xs.map avIntS) = some (xs.map aoIntS) := by
  have hl : xs.length ≤ 900000000 := by unfold szIntSS at hb; omega
  refine ul_toIntSS _ ?_
  have e := toIntSS_0 xs hb xs.length 0 (by omega)
  rw [filled_zero] at e
  have h0 : (0 : Int) ≤ (xs.length : Int) := by omega
  simp only [Int.natCast_zero] at e
  simp only [List.length_map, Int.toNat_natCast, h0, Int.le_refl, capB_8 (b := 24) hl (by omega), decide_true, Bool.and_self, cond_true, bnd_eq]
  rw [show (.own 1 [] : AVal) = (aoIntS []) from rfl, e]; rfl
theorem eqIntSS_0 (xs : List (List Int)) (hb : szIntSS xs ≤ 900000000) : ∀ n i : Nat, i + n = xs.length → Ll_eqIntSS_0 (xs.map avIntS) (xs.map avIntS) (i : Int) = some (.inr ())
  | 0, i, h => by
    refine ll_eqIntSS_0 _ _ _ ?_
    simp [show ¬ i < xs.length by omega]
  | n + 1, i, h => by
    have hl : xs.length ≤ 900000000 := by unfold szIntSS at hb; omega
    have hi : i < xs.length := by omega
    have ih := eqIntSS_0 xs hb n (i + 1) (by omega)
    have e1 : CT.shape (.slice 1) (avIntS xs[i]) = true := rfl
    have e3 : (avIntS xs[i]).elems = xs[i].map iv := rfl
    have hz : xs[i].length ≤ 900000000 := by have := totIntS_mem (List.getElem_mem hi); unfold szIntSS at hb; omega
    refine ll_eqIntSS_0 _ _ _ ?_
    simp only [List.length_map, Int.toNat_natCast, dlt_true hi, d0_true, Bool.and_self, cond_true, cond_false, getD_map avIntS hi, wrap_succ hi (by omega), e1, e3, eqIntS xs[i] hz, Option.bind_some, Bool.not_true, ih]
theorem eqIntSS (xs : List (List Int)) (hb : szIntSS xs ≤ 900000000) : Fl_eqIntSS (xs.map avIntS) (xs.map avIntS) = some true := by
  refine ul_eqIntSS _ _ ?_
  have e := eqIntSS_0 xs hb xs.length 0 (by omega)
  simp only [Int.natCast_zero] at e
  simp [e]
theorem fitIntSS : ∀ {xs : List AVal}, (∀ y ∈ xs, Fits ctx ty_S_int y) → ∃ ns : List (List Int), xs = ns.map avIntS ∧ ∀ x ∈ ns, x.length ≤ maxLen
  | [], _ => ⟨[], rfl, by simp⟩
  | y :: ys, h => by
    obtain ⟨x, rfl, l0, q⟩ := (h y (by simp)).slice' (sz := 1) (e := ty_int) (by kernel_rfl)
    obtain ⟨x, rfl⟩ := fitIntS q
    rw [List.length_map] at l0
    have hx : x.length ≤ maxLen := l0
    obtain ⟨ns, rfl, hn⟩ := fitIntSS (xs := ys) fun z hz => h z (by simp [hz])
    exact ⟨x :: ns, rfl, fun z hz => by rcases List.mem_cons.1 hz with rfl | hz; exact hx; exact hn z hz⟩
abbrev TableD := List (List ActD) × List (List Int)
def avTable (x : TableD) : AVal := .agg [.ro false 1 (x.1.map avActS), .ro false 1 (x.2.map avIntS)]
def aoTable (x : TableD) : AVal := .agg [.own 1 (x.1.map aoActS), .own 1 (x.2.map aoIntS)]
theorem asRo_Table (x : TableD) : asRo (aoTable x) = avTable x := by simp only [aoTable, avTable, asRo, asRoL, asRoL_map2 asRo_ActS, asRoL_map2 asRo_IntS]
theorem noRo_Table (x : TableD) : noRo (aoTable x) = true := by simp only [aoTable, noRo, noRoL, noRoL_map noRo_ActS, noRoL_map noRo_IntS, Bool.and_self]
theorem sh_Table (x : TableD) : shapes [.slice 1, .slice 1] (((avTable x).cells.drop 0).take 2) = true := rfl
theorem c0_Table (x : TableD) : ((avTable x).cell 0).elems = x.1.map avActS := rfl
theorem p0_Table (x : TableD) : CT.shape (.slice 1) ((avTable x).cell 0) = true := rfl
theorem c1_Table (x : TableD) : ((avTable x).cell 1).elems = x.2.map avIntS := rfl
theorem p1_Table (x : TableD) : CT.shape (.slice 1) ((avTable x).cell 1) = true := rfl
def szTable (x : TableD) : Nat := szActSS x.1 + szIntSS x.2
def wfTable (x : TableD) : Prop := (x.1.length ≤ maxLen ∧ ∀ y ∈ x.1, y.length ≤ maxLen) ∧ (x.2.length ≤ maxLen ∧ ∀ y ∈ x.2, y.length ≤ maxLen)
theorem tzTable (x : TableD) (l : Int) (hw : wfTable x) (h0 : 0 ≤ l) (h1 : l ≤ 900000000) : Fl_szTable (x.1.map avActS) (x.2.map avIntS) l = some (szR l (szTable x)) := by
  unfold wfTable at hw
  unfold szTable
  refine ul_szTable _ _ _ ?_
  obtain ⟨w0, w1⟩ := hw
  have b0 : 0 ≤ l ∧ l ≤ 900000000 := by exact ⟨h0, h1⟩
  have e0 := tzActSS x.1 (l) w0 b0.1 b0.2
  by_cases g0 : szR l (szActSS x.1) < 0
  · simp only [e0, g0, Option.bind_some, decide_true, cond_true]
    rw [show szR l (szActSS x.1 + szIntSS x.2) = -1 from by rw [show szActSS x.1 + szIntSS x.2 = (szActSS x.1) + (szIntSS x.2) by omega]; exact szR_over g0 h0]
  have b1 : 0 ≤ szR l (szActSS x.1) ∧ szR l (szActSS x.1) ≤ 900000000 := by have := szR_le _ _ g0; omega
  have e1 := tzIntSS x.2 (szR l (szActSS x.1)) w1 b1.1 b1.2
  rw [szR_step g0] at e1
  by_cases g1 : szR l (szActSS x.1 + szIntSS x.2) < 0
  · simp only [e0, g0, Option.bind_some, decide_false, cond_false, e1, g1, Option.bind_some, decide_true, cond_true]
    rw [szR_m1 g1 h0]
  simp only [e0, g0, Option.bind_some, decide_false, cond_false, e1, g1]
theorem toTable (x : TableD) (h : szTable x ≤ 900000000) : Fl_toTable (x.1.map avActS) (x.2.map avIntS) = some ((x.1.map aoActS), (x.2.map aoIntS)) := by
  unfold szTable at h
  refine ul_toTable _ _ ?_
  simp only [toActSS x.1 (by omega), toIntSS x.2 (by omega), Option.bind_some]
theorem eqTable (x : TableD) (h : szTable x ≤ 900000000) : Fl_eqTable (x.1.map avActS) (x.2.map avIntS) (x.1.map avActS) (x.2.map avIntS) = some true := by
  unfold szTable at h
  refine ul_eqTable _ _ _ _ ?_
  simp only [eqActSS x.1 (by omega), eqIntSS x.2 (by omega), Option.bind_some, decide_true, beq_self_eq_true, Bool.not_true, cond_false]
theorem fitTable {y : AVal} (h : Fits ctx ty_laws_Table y) : ∃ x : TableD, y = avTable x ∧ wfTable x := by
  obtain ⟨fs, rfl, g⟩ := h.struct' (us := [ty_S_S_laws_Act, ty_S_S_int]) (by kernel_rfl)
  obtain ⟨v0, r, rfl, g0, g⟩ := g.cons'
  obtain ⟨v1, r, rfl, g1, g⟩ := g.cons'
  obtain rfl := g.nil'
  obtain ⟨x0, rfl, l0, q0⟩ := g0.slice' (sz := 1) (e := ty_S_laws_Act) (by kernel_rfl)
  obtain ⟨a0, rfl, w0⟩ := fitActSS q0
  rw [List.length_map] at l0
  obtain ⟨x1, rfl, l1, q1⟩ := g1.slice' (sz := 1) (e := ty_S_int) (by kernel_rfl)
  obtain ⟨a1, rfl, w1⟩ := fitIntSS q1
  rw [List.length_map] at l1
  exact ⟨(a0, a1), rfl, ⟨⟨l0, w0⟩, ⟨l1, w1⟩⟩⟩
abbrev PackedD := List (List ActD) × List (List Int) × List Int × List Int
def avPacked (x : PackedD) : AVal := .agg [.ro false 1 (x.1.map avActS), .ro false 1 (x.2.1.map avIntS), .ro false 1 (x.2.2.1.map iv), .ro false 1 (x.2.2.2.map iv)]
def aoPacked (x : PackedD) : AVal := .agg [.own 1 (x.1.map aoActS), .own 1 (x.2.1.map aoIntS), .own 1 (x.2.2.1.map iv), .own 1 (x.2.2.2.map iv)]
theorem asRo_Packed (x : PackedD) : asRo (aoPacked x) = avPacked x := by simp only [aoPacked, avPacked, asRo, asRoL, asRoL_map2 asRo_ActS, asRoL_map2 asRo_IntS, asRoL_map2 asRo_iv]
theorem noRo_Packed (x : PackedD) : noRo (aoPacked x) = true := by simp only [aoPacked, noRo, noRoL, noRoL_map noRo_ActS, noRoL_map noRo_IntS, noRoL_map noRo_iv, Bool.and_self]
theorem sh_Packed (x : PackedD) : shapes [.slice 1, .slice 1, .slice 1, .slice 1] (((avPacked x).cells.drop 0).take 4) = true := rfl
theorem c0_Packed (x : PackedD) : ((avPacked x).cell 0).elems = x.1.map avActS := rfl
theorem p0_Packed (x : PackedD) : CT.shape (.slice 1) ((avPacked x).cell 0) = true := rfl
theorem c1_Packed (x : PackedD) : ((avPacked x).cell 1).elems = x.2.1.map avIntS := rfl
theorem p1_Packed (x : PackedD) : CT.shape (.slice 1) ((avPacked x).cell 1) = true := rfl
theorem c2_Packed (x : PackedD) : ((avPacked x).cell 2).elems = x.2.2.1.map iv := rfl
theorem p2_Packed (x : PackedD) : CT.shape (.slice 1) ((avPacked x).cell 2) = true := rfl
theorem c3_Packed (x : PackedD) : ((avPacked x).cell 3).elems = x.2.2.2.map iv := rfl
theorem p3_Packed (x : PackedD) : CT.shape (.slice 1) ((avPacked x).cell 3) = true := rfl
def szPacked (x : PackedD) : Nat := szActSS x.1 + szIntSS x.2.1 + x.2.2.1.length + x.2.2.2.length
def wfPacked (x : PackedD) : Prop := (x.1.length ≤ maxLen ∧ ∀ y ∈ x.1, y.length ≤ maxLen) ∧ (x.2.1.length ≤ maxLen ∧ ∀ y ∈ x.2.1, y.length ≤ maxLen) ∧ (x.2.2.1.length ≤ maxLen) ∧ (x.2.2.2.length ≤ maxLen)
theorem tzPacked (x : PackedD) (l : Int) (hw : wfPacked x) (h0 : 0 ≤ l) (h1 : l ≤ 900000000) : Fl_szPacked (x.1.map avActS) (x.2.1.map avIntS) (x.2.2.1.map iv) (x.2.2.2.map iv) l = some (szR l (szPacked x)) := by
  unfold wfPacked at hw
  unfold szPacked
  refine ul_szPacked _ _ _ _ _ ?_
  obtain ⟨w0, w1, w2, w3⟩ := hw
  have b0 : 0 ≤ l ∧ l ≤ 900000000 := by exact ⟨h0, h1⟩
  have e0 := tzActSS x.1 (l) w0 b0.1 b0.2
  by_cases g0 : szR l (szActSS x.1) < 0
  · simp only [e0, g0, Option.bind_some, decide_true, cond_true]
    rw [show szR l (szActSS x.1 + szIntSS x.2.1 + x.2.2.1.length + x.2.2.2.length) = -1 from by rw [show szActSS x.1 + szIntSS x.2.1 + x.2.2.1.length + x.2.2.2.length = (szActSS x.1) + (szIntSS x.2.1 + x.2.2.1.length + x.2.2.2.length) by omega]; exact szR_over g0 h0]
  have b1 : 0 ≤ szR l (szActSS x.1) ∧ szR l (szActSS x.1) ≤ 900000000 := by have := szR_le _ _ g0; omega
  have e1 := tzIntSS x.2.1 (szR l (szActSS x.1)) w1 b1.1 b1.2
  rw [szR_step g0] at e1
  by_cases g1 : szR l (szActSS x.1 + szIntSS x.2.1) < 0
  · simp only [e0, g0, Option.bind_some, decide_false, cond_false, e1, g1, Option.bind_some, decide_true, cond_true]
    rw [show szR l (szActSS x.1 + szIntSS x.2.1 + x.2.2.1.length + x.2.2.2.length) = -1 from by rw [show szActSS x.1 + szIntSS x.2.1 + x.2.2.1.length + x.2.2.2.length = (szActSS x.1 + szIntSS x.2.1) + (x.2.2.1.length + x.2.2.2.length) by omega]; exact szR_over g1 h0]
  have b2 : 0 ≤ szR l (szActSS x.1 + szIntSS x.2.1) ∧ szR l (szActSS x.1 + szIntSS x.2.1) ≤ 900000000 := by have := szR_le _ _ g1; omega
  have e2 := tzIntS x.2.2.1 (szR l (szActSS x.1 + szIntSS x.2.1)) w2 b2.1 b2.2
  rw [szR_step g1] at e2
  by_cases g2 : szR l (szActSS x.1 + szIntSS x.2.1 + x.2.2.1.length) < 0
  · simp only [e0, g0, Option.bind_some, decide_false, cond_false, e1, g1, Option.bind_some, decide_false, cond_false, e2, g2, Option.bind_some, decide_true, cond_true]
    rw [show szR l (szActSS x.1 + szIntSS x.2.1 + x.2.2.1.length + x.2.2.2.length) = -1 from by rw [show szActSS x.1 + szIntSS x.2.1 + x.2.2.1.length + x.2.2.2.length = (szActSS x.1 + szIntSS x.2.1 + x.2.2.1.length) + (x.2.2.2.length) by omega]; exact szR_over g2 h0]
  have b3 : 0 ≤ szR l (szActSS x.1 + szIntSS x.2.1 + x.2.2.1.length) ∧ szR l (szActSS x.1 + szIntSS x.2.1 + x.2.2.1.length) ≤ 900000000 := by have := szR_le _ _ g2; omega
  have e3 := tzIntS x.2.2.2 (szR l (szActSS x.1 + szIntSS x.2.1 + x.2.2.1.length)) w3 b3.1 b3.2
  rw [szR_step g2] at e3
  by_cases g3 : szR l (szActSS x.1 + szIntSS x.2.1 + x.2.2.1.length + x.2.2.2.length) < 0
  · simp only [e0, g0, Option.bind_some, decide_false, cond_false, e1, g1, Option.bind_some, decide_false, cond_false, e2, g2, Option.bind_some, decide_false, cond_false, e3, g3, Option.bind_some, decide_true, cond_true]
    rw [szR_m1 g3 h0]
  simp only [e0, g0, Option.bind_some, decide_false, cond_false, e1, g1, e2, g2, e3, g3]
theorem toPacked (x : PackedD) (h : szPacked x ≤ 900000000) : Fl_toPacked (x.1.map avActS) (x.2.1.map avIntS) (x.2.2.1.map iv) (x.2.2.2.map iv) = some ((x.1.map aoActS), (x.2.1.map aoIntS), (x.2.2.1.map iv), (x.2.2.2.map iv)) := by
  unfold szPacked at h
  refine ul_toPacked _ _ _ _ ?_
  simp only [toActSS x.1 (by omega), toIntSS x.2.1 (by omega), toIntS x.2.2.1 (by omega), toIntS x.2.2.2 (by omega), Option.bind_some]
theorem eqPacked (x : PackedD) (h : szPacked x ≤ 900000000) : Fl_eqPacked (x.1.map avActS) (x.2.1.map avIntS) (x.2.2.1.map iv) (x.2.2.2.map iv) (x.1.map avActS) (x.2.1.map avIntS) (x.2.2.1.map iv) (x.2.2.2.map iv) = some true := by
  unfold szPacked at h
  refine ul_eqPacked _ _ _ _ _ _ _ _ ?_
  simp only [eqActSS x.1 (by omega), eqIntSS x.2.1 (by omega), eqIntS x.2.2.1 (by omega), eqIntS x.2.2.2 (by omega), Option.bind_some, decide_true, beq_self_eq_true, Bool.not_true, cond_false]
theorem fitPacked {y : AVal} (h : Fits ctx ty_laws_Packed y) : ∃ x : PackedD, y = avPacked x ∧ wfPacked x := by
  obtain ⟨fs, rfl, g⟩ := h.struct' (us := [ty_S_S_laws_Act, ty_S_S_int, ty_S_int, ty_S_int]) (by kernel_rfl)
  obtain ⟨v0, r, rfl, g0, g⟩ := g.cons'
  obtain ⟨v1, r, rfl, g1, g⟩ := g.cons'
  obtain ⟨v2, r, rfl, g2, g⟩ := g.cons'
  obtain ⟨v3, r, rfl, g3, g⟩ := g.cons'
  obtain rfl := g.nil'
  obtain ⟨x0, rfl, l0, q0⟩ := g0.slice' (sz := 1) (e := ty_S_laws_Act) (by kernel_rfl)
  obtain ⟨a0, rfl, w0⟩ := fitActSS q0
  rw [List.length_map] at l0
  obtain ⟨x1, rfl, l1, q1⟩ := g1.slice' (sz := 1) (e := ty_S_int) (by kernel_rfl)
  obtain ⟨a1, rfl, w1⟩ := fitIntSS q1
  rw [List.length_map] at l1
  obtain ⟨x2, rfl, l2, q2⟩ := g2.slice' (sz := 1) (e := ty_int) (by kernel_rfl)
  obtain ⟨a2, rfl⟩ := fitIntS q2
  rw [List.length_map] at l2
  obtain ⟨x3, rfl, l3, q3⟩ := g3.slice' (sz := 1) (e := ty_int) (by kernel_rfl)
  obtain ⟨a3, rfl⟩ := fitIntS q3
  rw [List.length_map] at l3
  exact ⟨(a0, a1, a2, a3), rfl, ⟨⟨l0, w0⟩, ⟨l1, w1⟩, l2, l3⟩⟩
end Go.Proofs.YtmbnloccmnclnaaDoor
