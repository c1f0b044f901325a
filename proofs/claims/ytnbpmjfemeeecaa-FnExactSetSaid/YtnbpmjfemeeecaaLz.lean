/- The law Set answers true at all plain arguments; no condition. -/
import Derived.Test.YtnbpmjfemeeecaaLx
namespace Go.Proofs.Ytnbpmjfemeeecaa
open Go.VK AVal
/-! Rows of truth values -/
theorem toBoolS_0 (xs : List Bool) (hb : xs.length ≤ 1048576) : ∀ n i : Nat, i + n = xs.length → Ll_toBoolS_0 (xs.map bv) (i : Int) (filled bv (bv false) xs i) = some (xs.map bv)
  | 0, i, h => by
    refine ll_toBoolS_0 _ _ _ ?_
    obtain rfl : i = xs.length := by omega
    simp [filled_all]
  | n + 1, i, h => by
    have hi : i < xs.length := by omega
    have ih := toBoolS_0 xs hb n (i + 1) (by omega)
    have e1 : CT.shape .bool (bv xs[i]) = true := rfl
    have e2 : aggQ (bv false) = false := rfl
    have e3 : AVal.bool (bv xs[i]).toBool = bv xs[i] := rfl
    refine ll_toBoolS_0 _ _ _ ?_
    simp only [List.length_map, Int.toNat_natCast, dlt_true hi, d0_true, Bool.and_self, cond_true, getD_map bv hi, filled_len bv (bv false) (Nat.le_of_lt hi), filled_get bv (bv false) hi, blt_true hi, wrap_succ hi (by omega), e1, e2, e3, Bool.not_false, filled_set bv (bv false) hi, ih]
theorem toBoolS (xs : List Bool) (hb : xs.length ≤ 1048576) : Fl_toBoolS (xs.map bv) = some (xs.map bv) := by
  refine ul_toBoolS _ ?_
  have e := toBoolS_0 xs hb xs.length 0 (by omega)
  rw [filled_zero] at e
  have h0 : (0 : Int) ≤ (xs.length : Int) := by omega
  simp only [Int.natCast_zero] at e
  simp only [List.length_map, Int.toNat_natCast, h0, Int.le_refl, capB_8 (b := 1) hb (by omega), decide_true, Bool.and_self, cond_true]
  rw [show (.bool false : AVal) = bv false from rfl, e]; rfl
theorem eqBoolS_0 (xs : List Bool) (hb : xs.length ≤ 1048576) : ∀ n i : Nat, i + n = xs.length → Ll_eqBoolS_0 (xs.map bv) (xs.map bv) (i : Int) = some (.inr ())
  | 0, i, h => by
    refine ll_eqBoolS_0 _ _ _ ?_
    simp [show ¬ i < xs.length by omega]
  | n + 1, i, h => by
    have hi : i < xs.length := by omega
    have ih := eqBoolS_0 xs hb n (i + 1) (by omega)
    have e1 : CT.shape .bool (bv xs[i]) = true := rfl
    refine ll_eqBoolS_0 _ _ _ ?_
    simp only [List.length_map, Int.toNat_natCast, dlt_true hi, d0_true, Bool.and_self, cond_true, cond_false, getD_map bv hi, wrap_succ hi (by omega), e1, beq_self_eq_true, Bool.not_true, ih]
theorem eqBoolS (xs : List Bool) (hb : xs.length ≤ 1048576) : Fl_eqBoolS (xs.map bv) (xs.map bv) = some true := by
  refine ul_eqBoolS _ _ ?_
  have e := eqBoolS_0 xs hb xs.length 0 (by omega)
  simp only [Int.natCast_zero] at e
  simp [e]
/-! A right layout -/
theorem allF_at {p : Nat → Bool} : ∀ (n i : Nat), allF p i n = true → ∀ j, i ≤ j → j < i + n → p j = true
  | 0, i, _, j, h1, h2 => by omega
  | n + 1, i, h, j, h1, h2 => by
    simp only [allF, Bool.and_eq_true] at h
    by_cases hj : j = i
    · rw [hj]; exact h.1
    · exact allF_at n (i + 1) h.2 j (by omega) (by omega)
theorem right_of {d : List LNodeD} {B : List Bool} (hq : layQ d = true) (hB : B.length = grpN d) (ht : totLNode d ≤ 1048576) : RightL d B (mass (kdA d)) ∧ ∀ i, i < d.length → mass (kdA d) i ≤ i + 1 := by
  simp only [layQ, Bool.and_eq_true, inQ, decide_eq_true_eq] at hq
  obtain ⟨⟨n1, n3⟩, _, hi, _⟩ := hq
  obtain ⟨hs, hu⟩ := (two_ways (kdA d) (nqA d) d.length 0 (by simp [ups])).1 hi
  rw [Nat.zero_add] at hu
  have hsp : ∀ i, i < d.length → specQ (kdA d) (nqA d) i = true := fun i h => allF_at d.length 0 hs i (Nat.zero_le i) (by omega)
  have hdn : DownQ (kdA d) d.length := fun i h x hx => by
    have := hsp i h
    simp only [specQ, Bool.and_eq_true, rngQ, List.all_eq_true, decide_eq_true_eq] at this
    have := this.2 x hx
    omega
  refine ⟨⟨by omega, by omega, hB, hdn, fun i h => ?_, fun i h => mass_eq hdn h, ht⟩, fun i h => mass_le hdn hu h⟩
  have := hsp i h
  simp only [specQ, Bool.and_eq_true] at this
  exact this.1
theorem text2 {d : List LNodeD} {B : List Bool} (hq : layQ d = true) (hB : B.length = grpN d) (ht : totLNode d ≤ 1048576) : ∃ t, Fs_l14Text (d.map avLNode) (B.map bv) = some t ∧ Fi_setText (d.map avLNode) (B.map bv) = some t := by
  obtain ⟨h, hm⟩ := right_of hq hB ht
  have n1 := h.n1
  have n3 := h.n300
  have hml := hm (d.length - 1) (by omega)
  have hz : ByteArray.empty.size = 0 := rfl
  obtain ⟨o', r1, r2, r3⟩ := nodeJ h d.length (d.length - 1) (by omega) (by omega) 0 false ByteArray.empty (by omega) (by rw [hz]; omega)
  have w1 : IntKind.wrap .i64 ((d.length : Int) - 1) = ((d.length - 1 : Nat) : Int) := by rw [wrap64 (by omega) (by omega)]; omega
  have e0 : ofBytes ByteArray.empty = [] := rfl
  rw [e0] at r2
  simp only [Int.natCast_zero] at r2 r3
  refine ⟨o', us_l14Text _ _ ?_, ui_setText _ _ ?_⟩
  · simp only [List.length_map, w1, r2, Option.bind_some, ofBytes_int, cond_true, ofBytes_back]
  · simp only [List.length_map, setter d n3, Option.bind_some, w1, r3, ustrings_Builder_String _ (bldQ_mk _ _ _), bldS_mk]
theorem set2 (d : List LNodeD) (B : List Bool) (ht : totLNode d ≤ 1048576) : ∃ t c, Fs_Set (d.map avLNode) (B.map bv) = some (t, c) ∧ Fi_Set (d.map avLNode) (B.map bv) = some (t, c) := by
  by_cases hq : layQ d = true
  · have hd : d.length ≤ 300 := by
      simp only [layQ, Bool.and_eq_true, inQ, decide_eq_true_eq] at hq
      omega
    by_cases hB : B.length = grpN d
    · obtain ⟨t, h1, h2⟩ := text2 hq hB ht
      have e : ((B.length : Int) = (grpN d : Int)) := by omega
      refine ⟨t, 0, us_Set _ _ ?_, ui_Set _ _ ?_⟩
      · simp only [ly_spec d ht, hq, Option.bind_some, Bool.not_true, cond_false, gr_spec d hd, List.length_map, e, decide_true, h1]
      · simp only [ly_impl d ht, hq, Option.bind_some, Bool.not_true, cond_false, gr_impl d hd, List.length_map, e, decide_true, h2]
    · have e : ¬ ((B.length : Int) = (grpN d : Int)) := by omega
      refine ⟨ByteArray.mk #[], 4, us_Set _ _ ?_, ui_Set _ _ ?_⟩
      · simp only [ly_spec d ht, hq, Option.bind_some, Bool.not_true, cond_false, gr_spec d hd, List.length_map, e, decide_false, Bool.not_false, cond_true]
      · simp only [ly_impl d ht, hq, Option.bind_some, Bool.not_true, cond_false, gr_impl d hd, List.length_map, e, decide_false, Bool.not_false, cond_true]
  · refine ⟨ByteArray.mk #[], 1, us_Set _ _ ?_, ui_Set _ _ ?_⟩
    · simp only [ly_spec d ht, Bool.eq_false_iff.2 hq, Option.bind_some, Bool.not_false, cond_true]
    · simp only [ly_impl d ht, Bool.eq_false_iff.2 hq, Option.bind_some, Bool.not_false, cond_true]
theorem lawSe (d : List LNodeD) (B : List Bool) (hl : d.length ≤ maxLen) (hw : ∀ y ∈ d, wfLNode y) : Fl_FnExactSet (d.map avLNode) (B.map bv) = some true := by
  refine ul_FnExactSet _ _ ?_
  by_cases gB : (1048576 : Int) < (B.length : Int)
  · simp only [List.length_map, gB, decide_true, cond_true]
  have hB : B.length ≤ 1048576 := by omega
  have e := tzLNodeS d 1048576 ⟨hl, hw⟩ (by omega) (by omega)
  simp only [List.length_map, gB, decide_false, cond_false, e, Option.bind_some]
  by_cases g : szR 1048576 (szLNodeS d) < 0
  · simp only [g, decide_true, cond_true]
  have z := szR_nn g
  have hs : szLNodeS d ≤ 1048576 := by omega
  have ht : totLNode d ≤ 1048576 := by unfold szLNodeS at hs; omega
  have a : asRoL (d.map aoLNode) = d.map avLNode := asRoL_map2 asRo_LNode d
  obtain ⟨t, c, s1, s2⟩ := set2 d B ht
  simp only [g, decide_false, cond_false, toLNodeS d hs, toBoolS B hB, Option.bind_some, a, asRoL_map asRo_bv, s1, s2, decide_true, Bool.not_true, eqLNodeS d hs, eqBoolS B hB]
theorem fitBoolS : ∀ {xs : List AVal}, (∀ y ∈ xs, Fits ctx ty_bool y) → ∃ ns : List Bool, xs = ns.map bv
  | [], _ => ⟨[], rfl⟩
  | y :: ys, h => by
    obtain ⟨b, rfl⟩ := (h y (by simp)).bool' (by kernel_rfl)
    obtain ⟨ns, rfl⟩ := fitBoolS (xs := ys) fun z hz => h z (by simp [hz])
    exact ⟨b :: ns, rfl⟩
theorem lawSet : ∀ xs, FitsL ctx [ty_S_laws_LNode, ty_S_bool] xs → ∃ k, vcall ctx k n_l_FnExactSet xs [] = some ([.bool true], []) := by
  intro xs h
  obtain ⟨v0, r, rfl, g0, g⟩ := h.cons'
  obtain ⟨v1, r, rfl, g1, g⟩ := g.cons'
  obtain rfl := g.nil'
  obtain ⟨x0, rfl, l0, q0⟩ := g0.slice' (sz := 4) (e := ty_laws_LNode) (by kernel_rfl)
  obtain ⟨x1, rfl, l1, q1⟩ := g1.slice' (sz := 1) (e := ty_bool) (by kernel_rfl)
  obtain ⟨d, rfl, hw⟩ := fitLNodeS q0
  obtain ⟨B, rfl⟩ := fitBoolS q1
  rw [List.length_map] at l0
  exact law_of (S := sgl_FnExactSet) (a := (d.map avLNode, B.map bv)) (lawSe d B l0 hw) rfl rfl
end Go.Proofs.Ytnbpmjfemeeecaa
