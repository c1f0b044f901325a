/- The law Rename answers true at all plain arguments; no condition. -/
import Derived.Test.YtfniojpjlachoaaRe
namespace Go.Proofs.Ytfniojpjlachoaa
open Go.VK AVal
def hasI (l : List Int) (d : Int) : Bool := l.any fun x => decide (x = d)
theorem has_0 (d : Int) : ∀ (xs pre : List Int), (pre ++ xs).length ≤ 1048576 → Ls_l12Has_0 ((pre ++ xs).map iv) d (pre.length : Int) = some (if hasI xs d then .inl true else .inr ())
  | [], pre, hl => by
    refine ls_l12Has_0 _ _ _ ?_
    simp [hasI]
  | x :: xs, pre, hl => by
    have hm := mid_len pre xs x
    have ih := has_0 d xs (pre ++ [x]) (by simpa using hl)
    simp only [List.append_assoc, List.cons_append, List.nil_append, show ∀ x : Int, (pre ++ [x]).length = pre.length + 1 from fun x => by simp] at ih
    refine ls_l12Has_0 _ _ _ ?_
    by_cases g : x = d
    · have gd : decide (x = d) = true := decide_eq_true g
      simp only [Int.toNat_natCast, List.length_map, dlt_true hm, d0_true, Bool.and_self, cond_true, map_mid, iv_sh, iv_to, gd, hasI, List.any_cons, Bool.true_or, if_true]
    · have e : hasI (x :: xs) d = hasI xs d := by simp [hasI, g]
      simp only [Int.toNat_natCast, List.length_map, dlt_true hm, d0_true, Bool.and_self, cond_true, cond_false, map_mid, iv_sh, iv_to, g, decide_false, wrap_succ hm (by omega), ih, e]
theorem has_s (l : List Int) (d : Int) (hl : l.length ≤ 1048576) : Fs_l12Has (l.map iv) d = some (hasI l d) := by
  refine us_l12Has _ _ ?_
  have e := has_0 d l [] (by simpa using hl)
  simp only [List.nil_append, List.length_nil, Int.natCast_zero] at e
  cases g : hasI l d <;> simp [e, g]
theorem index_0 (d : Int) (L : Nat) : ∀ (xs pre : List Int), (pre ++ xs).length = L → L ≤ 1048576 → ∃ r : Int ⊕ Unit, Lslices_Index_int_int_0 ((pre ++ xs).map iv) d (L : Int) (pre.length : Int) = some r ∧ ((hasI xs d = true ∧ ∃ k : Nat, r = .inl (k : Int)) ∨ (hasI xs d = false ∧ r = .inr ()))
  | [], pre, hL, hl => by
    refine ⟨.inr (), lslices_Index_int_int_0 _ _ _ _ ?_, Or.inr ⟨rfl, rfl⟩⟩
    have : ¬ (pre.length : Int) < (L : Int) := by simp at hL; omega
    simp [this]
  | x :: xs, pre, hL, hl => by
    have hm := mid_len pre xs x
    obtain ⟨r, e, h⟩ := index_0 d L xs (pre ++ [x]) (by simpa using hL) hl
    simp only [List.append_assoc, List.cons_append, List.nil_append, show ∀ x : Int, (pre ++ [x]).length = pre.length + 1 from fun x => by simp] at e
    have hm2 : (pre.length : Int) < (L : Int) := by omega
    by_cases g : x = d
    · refine ⟨.inl (pre.length : Int), lslices_Index_int_int_0 _ _ _ _ ?_, Or.inl ⟨by simp [hasI, g], _, rfl⟩⟩
      have gd : decide (d = x) = true := decide_eq_true g.symm
      simp only [Int.toNat_natCast, List.length_map, hm2, dlt_true hm, d0_true, decide_true, Bool.and_self, cond_true, map_mid, iv_sh, iv_to, gd]
    · refine ⟨r, lslices_Index_int_int_0 _ _ _ _ ?_, ?_⟩
      · have g' : ¬ d = x := fun q => g q.symm
        simp only [Int.toNat_natCast, List.length_map, hm2, dlt_true hm, d0_true, decide_true, Bool.and_self, cond_true, cond_false, map_mid, iv_sh, iv_to, g', decide_false, wrap_succ hm (by omega), e]
      · have e' : hasI (x :: xs) d = hasI xs d := by simp [hasI, g]
        rw [e']; exact h
theorem has_i (l : List Int) (d : Int) (hl : l.length ≤ 1048576) : Fslices_Contains_int_int (l.map iv) d = some (hasI l d) := by
  obtain ⟨r, e, h⟩ := index_0 d l.length l [] rfl hl
  simp only [List.nil_append, List.length_nil, Int.natCast_zero] at e
  refine uslices_Contains_int_int _ _ ?_
  rcases h with ⟨q, k, rfl⟩ | ⟨q, rfl⟩
  · have e2 : Fslices_Index_int_int (l.map iv) d = some (k : Int) := uslices_Index_int_int _ _ (by simp only [List.length_map, e, Option.bind_some, Sum.elim_inl])
    simp only [e2, Option.bind_some, q, d0_true]
  · have e2 : Fslices_Index_int_int (l.map iv) d = some (-1) := uslices_Index_int_int _ _ (by simp only [List.length_map, e, Option.bind_some, Sum.elim_inr])
    simp only [e2, Option.bind_some, q]; rfl
theorem same_0 : ∀ (xs ys pre qre : List Int), xs.length = ys.length → pre.length = qre.length → (pre ++ xs).length ≤ 1048576 → Ls_l05SameInts_0 ((pre ++ xs).map iv) ((qre ++ ys).map iv) (pre.length : Int) = some (if xs = ys then .inr () else .inl false)
  | [], ys, pre, qre, h, hp, hl => by
    obtain rfl : ys = [] := List.length_eq_zero_iff.1 h.symm
    refine ls_l05SameInts_0 _ _ _ ?_
    simp
  | x :: xs, [], pre, qre, h, hp, hl => by simp at h
  | x :: xs, y :: ys, pre, qre, h, hp, hl => by
    have hm := mid_len pre xs x
    have hm2 := mid_len qre ys y
    have ih := same_0 xs ys (pre ++ [x]) (qre ++ [y]) (by simpa using h) (by simp [hp]) (by simpa using hl)
    simp only [List.append_assoc, List.cons_append, List.nil_append, show ∀ x : Int, (pre ++ [x]).length = pre.length + 1 from fun x => by simp] at ih
    have e2 : ((qre ++ y :: ys).map iv).getD pre.length .und = iv y := by rw [hp]; exact map_mid ..
    rw [← hp] at hm2
    refine ls_l05SameInts_0 _ _ _ ?_
    by_cases g : x = y
    · have gd : decide (x = y) = true := decide_eq_true g
      simp only [Int.toNat_natCast, List.length_map, dlt_true hm, dlt_true hm2, d0_true, decide_true, Bool.and_self, cond_true, cond_false, map_mid, e2, iv_sh, iv_to, gd, Bool.not_true, wrap_succ hm (by omega), ih, List.cons.injEq, true_and]
      simp only [g, true_and]
    · simp only [Int.toNat_natCast, List.length_map, dlt_true hm, dlt_true hm2, d0_true, Bool.and_self, cond_true, map_mid, e2, iv_sh, iv_to, g, decide_false, Bool.not_false, List.cons.injEq, false_and, if_false]
theorem same_s (xs ys : List Int) (hl : xs.length ≤ 1048576) : Fs_l05SameInts (xs.map iv) (ys.map iv) = some (decide (xs = ys)) := by
  refine us_l05SameInts _ _ ?_
  by_cases g : xs.length = ys.length
  · have e := same_0 xs ys [] [] g rfl (by simpa using hl)
    simp only [List.nil_append, List.length_nil, Int.natCast_zero] at e
    by_cases q : xs = ys
    · subst q
      simp only [if_true] at e
      simp [e]
    · simp only [q, if_false] at e
      simp [e, g, q]
  · have q : ¬ xs = ys := fun q => g (by rw [q])
    have g' : ¬ (xs.length : Int) = (ys.length : Int) := by omega
    simp [g', q]
theorem equal_0 (L : Nat) : ∀ (xs ys pre qre : List Int), xs.length = ys.length → pre.length = qre.length → (pre ++ xs).length = L → L ≤ 1048576 → Lslices_Equal_int_int_0 ((pre ++ xs).map iv) ((qre ++ ys).map iv) (L : Int) (pre.length : Int) = some (if xs = ys then .inr () else .inl false)
  | [], ys, pre, qre, h, hp, hL, hl => by
    obtain rfl : ys = [] := List.length_eq_zero_iff.1 h.symm
    refine lslices_Equal_int_int_0 _ _ _ _ ?_
    have : ¬ (pre.length : Int) < (L : Int) := by simp at hL; omega
    simp [this]
  | x :: xs, [], pre, qre, h, hp, hL, hl => by simp at h
  | x :: xs, y :: ys, pre, qre, h, hp, hL, hl => by
    have hm := mid_len pre xs x
    have hm2 := mid_len qre ys y
    have hm3 : (pre.length : Int) < (L : Int) := by omega
    have ih := equal_0 L xs ys (pre ++ [x]) (qre ++ [y]) (by simpa using h) (by simp [hp]) (by simpa using hL) hl
    simp only [List.append_assoc, List.cons_append, List.nil_append, show ∀ x : Int, (pre ++ [x]).length = pre.length + 1 from fun x => by simp] at ih
    have e2 : ((qre ++ y :: ys).map iv).getD pre.length .und = iv y := by rw [hp]; exact map_mid ..
    rw [← hp] at hm2
    refine lslices_Equal_int_int_0 _ _ _ _ ?_
    by_cases g : x = y
    · have gd : decide (x = y) = true := decide_eq_true g
      simp only [Int.toNat_natCast, List.length_map, hm3, dlt_true hm, dlt_true hm2, d0_true, decide_true, Bool.and_self, cond_true, cond_false, map_mid, e2, iv_sh, iv_to, gd, Bool.not_true, wrap_succ hm (by omega), ih, List.cons.injEq, true_and]
      simp only [g, true_and]
    · simp only [Int.toNat_natCast, List.length_map, hm3, dlt_true hm, dlt_true hm2, d0_true, decide_true, Bool.and_self, cond_true, map_mid, e2, iv_sh, iv_to, g, decide_false, Bool.not_false, List.cons.injEq, false_and, if_false]
theorem same_i (xs ys : List Int) (hl : xs.length ≤ 1048576) : Fslices_Equal_int_int (xs.map iv) (ys.map iv) = some (decide (xs = ys)) := by
  refine uslices_Equal_int_int _ _ ?_
  by_cases g : xs.length = ys.length
  · have e := equal_0 xs.length xs ys [] [] g rfl rfl hl
    simp only [List.nil_append, List.length_nil, Int.natCast_zero] at e
    by_cases q : xs = ys
    · subst q
      simp only [if_true] at e
      simp only [List.length_map, decide_true, Bool.not_true, cond_false, e, Option.bind_some, Sum.elim_inr]
    · simp only [q, if_false] at e
      have g' : (xs.length : Int) = (ys.length : Int) := by omega
      simp only [List.length_map, g', decide_true, Bool.not_true, cond_false] at e ⊢
      simp only [e, Option.bind_some, Sum.elim_inl, q, decide_false]
  · have q : ¬ xs = ys := fun q => g (by rw [q])
    have g' : ¬ (xs.length : Int) = (ys.length : Int) := by omega
    simp [g', q]
/-! The new names -/
def ren0 (es : List Edg) (ds : List Spt) (n decl : Int) (nm : ByteArray) : List Spt → Option (List Spt)
  | [] => some []
  | r :: rs => if hasI (lvR es r.1 r.2 ds n) decl then (if 1 < (lvR es r.1 r.2 ds n).length then none else (ren0 es ds n decl nm rs).map fun t => (r.1, nm) :: t) else (ren0 es ds n decl nm rs).map fun t => r :: t
theorem ren0_len (es : List Edg) (ds : List Spt) (n decl : Int) (nm : ByteArray) : ∀ (rs t : List Spt), ren0 es ds n decl nm rs = some t → t.length = rs.length
  | [], t, h => by cases h; rfl
  | r :: rs, t, h => by
    simp only [ren0] at h
    have go : ∀ x : Spt, (ren0 es ds n decl nm rs).map (fun t => x :: t) = some t → t.length = (r :: rs).length := fun x h => by
      cases q : ren0 es ds n decl nm rs with
      | none => simp [q] at h
      | some u =>
        simp only [q, Option.map_some, Option.some.injEq] at h
        subst h
        simp [ren0_len es ds n decl nm rs u q]
    split at h
    · split at h
      · cases h
      · exact go _ h
    · exact go _ h
theorem ren0_g (es : List Edg) (ds : List Spt) (n decl : Int) (nm : ByteArray) : ∀ (rs t : List Spt), ren0 es ds n decl nm rs = some t → spG n rs → spG n t
  | [], t, h, _ => by cases h; exact fun d hd => by cases hd
  | r :: rs, t, h, hs => by
    simp only [ren0] at h
    have go : ∀ x : Spt, x.1 = r.1 → (ren0 es ds n decl nm rs).map (fun t => x :: t) = some t → spG n t := fun x hx h => by
      cases q : ren0 es ds n decl nm rs with
      | none => simp [q] at h
      | some u =>
        simp only [q, Option.map_some, Option.some.injEq] at h
        subst h
        intro d hd
        rcases List.mem_cons.1 hd with rfl | hd
        · rw [hx]; exact hs r (by simp)
        · exact ren0_g es ds n decl nm rs u q (fun d hd => hs d (by simp [hd])) d hd
    split at h
    · split at h
      · cases h
      · exact go (r.1, nm) rfl h
    · exact go r rfl h
abbrev Z0 := Int × Int × List AVal × List AVal × List AVal
theorem s_set (r : SpotD) (nm : ByteArray) : AVal.agg (setMany (avSpot r).cells 0 [.int .i64 r.1, .str nm]) = avSpot (r.1, nm) := rfl
theorem i_set (r : SpotD) (nm : ByteArray) : AVal.agg (setMany (avSpot r).cells 1 [.str nm]) = avSpot (r.1, nm) := rfl
theorem a_spot (r : SpotD) : aggQ (avSpot r) = true := rfl
theorem b_spot (r : SpotD) : Nat.ble 2 (avSpot r).cells.length = true := rfl
theorem mid_get' (pre suf : List SpotD) (x : SpotD) (k : Nat) (h : pre.length = k) : ((pre ++ x :: suf).map avSpot).getD k .und = avSpot x := by subst h; exact map_mid ..
theorem mid_set' (pre suf : List SpotD) (x y : SpotD) (k : Nat) (h : pre.length = k) : ((pre ++ x :: suf).map avSpot).set k (avSpot y) = (pre ++ y :: suf).map avSpot := by subst h; simp
section
variable (n : Int) (h0 : 0 ≤ n) (h2 : n ≤ 60) (es : List SEdgeD) (ds : List SpotD) (he : edG n es) (hd : spG n ds) (l1 : es.length ≤ 120) (l2 : ds.length ≤ 120) (decl : Int) (nm : ByteArray)
include h0 h2 he hd l1 l2
theorem rs_mid (pre rs : List SpotD) (r : SpotD) (hr : spG n (pre ++ r :: rs)) : Fi_Sg_resolve n (es.map avSEdge) (ds.map avSpot) ((pre ++ r :: rs).map avSpot) (pre.length : Int) = some ((lvR es r.1 r.2 ds n).map iv) := by
  have e := rs_i n h0 h2 es ds (pre ++ r :: rs) he hd hr l1 l2 pre.length (mid_len ..)
  have q : (pre ++ r :: rs)[pre.length]'(mid_len ..) = r := by simp
  rw [q] at e
  exact e
theorem rn_s0 (z : Int) (Z1 Z2 Z3 : List AVal) (m : Int) (oE oD : List AVal) : ∀ (rs pre pre' : List SpotD), (pre ++ rs).length ≤ 120 → spG n (pre ++ rs) → pre.length = pre'.length →
    Ls_Rename_0 decl nm (pre.length : Int) n (es.map avSEdge) (ds.map avSpot) ((pre ++ rs).map avSpot) z Z1 Z2 Z3 m oE oD ((pre' ++ rs).map avSpot) =
      some (match ren0 es ds n decl nm rs with | none => .inl (5, 0, [], [], []) | some t => .inr (n, es.map avSEdge, ds.map avSpot, (pre ++ rs).map avSpot, z, Z1, Z2, Z3, m, oE, oD, (pre' ++ t).map avSpot))
  | [], pre, pre', hl, hs, hp => by
    refine ls_Rename_0 _ _ _ _ _ _ _ _ _ _ _ _ _ _ _ ?_
    simp [ren0]
  | r :: rs, pre, pre', hl, hs, hp => by
    have hm := mid_len pre rs r
    have hm2 : pre.length < (pre' ++ r :: rs).length := by rw [hp]; exact mid_len ..
    have ih := fun x => rn_s0 z Z1 Z2 Z3 m oE oD rs (pre ++ [r]) (pre' ++ [x]) (by simpa using hl) (by simpa using hs) (by simp [hp])
    simp only [List.append_assoc, List.cons_append, List.nil_append, show ∀ x : SpotD, (pre ++ [x]).length = pre.length + 1 from fun x => by simp] at ih
    have hr := lv_spec n h0 h2 es ds ((pre ++ r :: rs).map avSpot) he hd l1 l2 r.1 (hs r (by simp)) r.2
    have hL := Nat.le_trans (lvR_len es r.1 r.2 ds n) l2
    have hh := has_s (lvR es r.1 r.2 ds n) decl (by omega)
    have gs := mid_get' pre' rs r pre.length hp.symm
    have ss := mid_set' pre' rs r (r.1, nm) pre.length hp.symm
    refine ls_Rename_0 _ _ _ _ _ _ _ _ _ _ _ _ _ _ _ ?_
    by_cases g1 : hasI (lvR es r.1 r.2 ds n) decl = true
    · by_cases g2 : 1 < (lvR es r.1 r.2 ds n).length
      · have g2' : (1 : Int) < ((lvR es r.1 r.2 ds n).length : Int) := by omega
        simp only [Int.toNat_natCast, List.length_map, dlt_true hm, d0_true, Bool.and_self, cond_true, cond_false, map_mid, sh_Spot, c0_Spot, c1_Spot, hr, hh, Option.bind_some, g1, Bool.not_true, g2', decide_true, ren0, if_true, g2]
      · have g2' : ¬ (1 : Int) < ((lvR es r.1 r.2 ds n).length : Int) := by omega
        simp only [Int.toNat_natCast, List.length_map, dlt_true hm, dlt_true hm2, blt_true hm2, d0_true, Bool.and_self, cond_true, cond_false, map_mid, sh_Spot, p0_Spot, c0_Spot, c1_Spot, hr, hh, Option.bind_some, g1, Bool.not_true, g2', decide_false, gs, a_spot, b_spot, bnd_eq, s_set, ss, wrap_succ hm (by omega), ih, ren0, if_true, if_false, g2]
        cases ren0 es ds n decl nm rs <;> rfl
    · simp only [Int.toNat_natCast, List.length_map, dlt_true hm, d0_true, Bool.and_self, cond_true, map_mid, sh_Spot, c0_Spot, c1_Spot, hr, hh, Option.bind_some, Bool.eq_false_iff.2 g1, Bool.not_false, wrap_succ hm (by omega), ih, ren0, Bool.false_eq_true, if_false]
      cases ren0 es ds n decl nm rs <;> rfl
theorem rn_i0 (z : Int) (Z1 Z2 Z3 : List AVal) (m : Int) (oE oD : List AVal) (L : Nat) : ∀ (rs pre pre' : List SpotD), (pre ++ rs).length = L → L ≤ 120 → spG n (pre ++ rs) → pre.length = pre'.length →
    Li_Rename_0 decl nm (L : Int) (pre.length : Int) n (es.map avSEdge) (ds.map avSpot) ((pre ++ rs).map avSpot) z Z1 Z2 Z3 m oE oD ((pre' ++ rs).map avSpot) =
      some (match ren0 es ds n decl nm rs with | none => .inl (5, 0, [], [], []) | some t => .inr (n, es.map avSEdge, ds.map avSpot, (pre ++ rs).map avSpot, z, Z1, Z2, Z3, m, oE, oD, (pre' ++ t).map avSpot))
  | [], pre, pre', hL, hl, hs, hp => by
    refine li_Rename_0 _ _ _ _ _ _ _ _ _ _ _ _ _ _ _ _ ?_
    have : ¬ (pre.length : Int) < (L : Int) := by simp at hL; omega
    simp [ren0, this]
  | r :: rs, pre, pre', hL, hl, hs, hp => by
    have hm := mid_len pre rs r
    have hm3 : (pre.length : Int) < (L : Int) := by omega
    have hm2 : pre.length < (pre' ++ r :: rs).length := by rw [hp]; exact mid_len ..
    have ih := fun x => rn_i0 z Z1 Z2 Z3 m oE oD L rs (pre ++ [r]) (pre' ++ [x]) (by simpa using hL) hl (by simpa using hs) (by simp [hp])
    simp only [List.append_assoc, List.cons_append, List.nil_append, show ∀ x : SpotD, (pre ++ [x]).length = pre.length + 1 from fun x => by simp] at ih
    have hr := rs_mid n h0 h2 es ds he hd l1 l2 pre rs r hs
    have hLn := Nat.le_trans (lvR_len es r.1 r.2 ds n) l2
    have hh := has_i (lvR es r.1 r.2 ds n) decl (by omega)
    have gs := mid_get' pre' rs r pre.length hp.symm
    have ss := mid_set' pre' rs r (r.1, nm) pre.length hp.symm
    refine li_Rename_0 _ _ _ _ _ _ _ _ _ _ _ _ _ _ _ _ ?_
    by_cases g1 : hasI (lvR es r.1 r.2 ds n) decl = true
    · by_cases g2 : 1 < (lvR es r.1 r.2 ds n).length
      · have g2' : (1 : Int) < ((lvR es r.1 r.2 ds n).length : Int) := by omega
        simp only [List.length_map, hm3, decide_true, cond_true, hr, asRoL_map asRo_iv, hh, Option.bind_some, g1, g2', ren0, if_true, g2]
      · have g2' : ¬ (1 : Int) < ((lvR es r.1 r.2 ds n).length : Int) := by omega
        simp only [Int.toNat_natCast, List.length_map, hm3, decide_true, dlt_true hm2, blt_true hm2, d0_true, Bool.and_self, cond_true, cond_false, hr, asRoL_map asRo_iv, hh, Option.bind_some, g1, g2', decide_false, gs, a_spot, b_spot, bnd_eq, i_set, ss, wrap_succ hm (by omega), ih, ren0, if_true, if_false, g2]
        cases ren0 es ds n decl nm rs <;> rfl
    · simp only [hm3, decide_true, cond_true, cond_false, hr, asRoL_map asRo_iv, hh, Option.bind_some, Bool.eq_false_iff.2 g1, wrap_succ hm (by omega), ih, ren0, Bool.false_eq_true, if_false]
      cases ren0 es ds n decl nm rs <;> rfl
/-- does each reference still see what it saw? -/
def chk (es : List Edg) (ds ds' : List Spt) (n : Int) : List Spt → List Spt → Bool
  | r :: rs, t :: ts => decide (lvR es r.1 r.2 ds n = lvR es t.1 t.2 ds' n) && chk es ds ds' n rs ts
  | _, _ => true
variable (ds' : List SpotD) (hd' : spG n ds') (l2' : ds'.length ≤ 120)
include hd' l2'
theorem rn_s1 (z : Int) (Z1 Z2 Z3 : List AVal) : ∀ (rs ts pre pre' : List SpotD), rs.length = ts.length → (pre ++ rs).length ≤ 120 → spG n (pre ++ rs) → spG n ts → pre.length = pre'.length →
    Ls_Rename_1s1 (pre.length : Int) n (es.map avSEdge) (ds.map avSpot) ((pre ++ rs).map avSpot) z Z1 Z2 Z3 n (es.map avSEdge) (ds'.map avSpot) ((pre' ++ ts).map avSpot) =
      some (if chk es ds ds' n rs ts then .inr (.inr (z, Z1, Z2, Z3, n, es.map avSEdge, ds'.map avSpot, (pre' ++ ts).map avSpot)) else .inl (12, 0, [], [], []))
  | [], ts, pre, pre', ht, hl, hs, hs', hp => by
    obtain rfl : ts = [] := List.length_eq_zero_iff.1 ht.symm
    refine ls_Rename_1s1 _ _ _ _ _ _ _ _ _ _ _ _ _ ?_
    simp [chk]
  | r :: rs, [], pre, pre', ht, hl, hs, hs', hp => by simp at ht
  | r :: rs, t :: ts, pre, pre', ht, hl, hs, hs', hp => by
    have hm := mid_len pre rs r
    have hm2 : pre.length < (pre' ++ t :: ts).length := by rw [hp]; exact mid_len ..
    have ih := rn_s1 z Z1 Z2 Z3 rs ts (pre ++ [r]) (pre' ++ [t]) (by simpa using ht) (by simpa using hl) (by simpa using hs) (fun d hd => hs' d (by simp [hd])) (by simp [hp])
    simp only [List.append_assoc, List.cons_append, List.nil_append, show ∀ x : SpotD, (pre ++ [x]).length = pre.length + 1 from fun x => by simp] at ih
    have hr := lv_spec n h0 h2 es ds ((pre ++ r :: rs).map avSpot) he hd l1 l2 r.1 (hs r (by simp)) r.2
    have hr' := lv_spec n h0 h2 es ds' ((pre' ++ t :: ts).map avSpot) he hd' l1 l2' t.1 (hs' t (by simp)) t.2
    have hL := Nat.le_trans (lvR_len es r.1 r.2 ds n) l2
    have gs := mid_get' pre' ts t pre.length hp.symm
    refine ls_Rename_1s1 _ _ _ _ _ _ _ _ _ _ _ _ _ ?_
    have hq := same_s (lvR es r.1 r.2 ds n) (lvR es t.1 t.2 ds' n) (by omega)
    by_cases g : lvR es r.1 r.2 ds n = lvR es t.1 t.2 ds' n
    · have gd := decide_eq_true g
      simp only [Int.toNat_natCast, List.length_map, dlt_true hm, dlt_true hm2, d0_true, Bool.and_self, cond_true, cond_false, map_mid, gs, sh_Spot, c0_Spot, c1_Spot, hr, hr', Option.bind_some, hq, gd, Bool.not_true, wrap_succ hm (by omega), ih, chk, Bool.true_and]
    · have gd := decide_eq_false g
      simp only [Int.toNat_natCast, List.length_map, dlt_true hm, dlt_true hm2, d0_true, Bool.and_self, cond_true, map_mid, gs, sh_Spot, c0_Spot, c1_Spot, hr, hr', Option.bind_some, hq, gd, Bool.not_false, chk, Bool.false_and, Bool.false_eq_true, if_false]
theorem rn_i1 (z : Int) (Z1 Z2 Z3 : List AVal) (L : Nat) : ∀ (rs ts pre pre' : List SpotD), rs.length = ts.length → (pre ++ rs).length = L → L ≤ 120 → spG n (pre ++ rs) → spG n (pre' ++ ts) → pre.length = pre'.length →
    Li_Rename_1 (L : Int) (pre.length : Int) n (es.map avSEdge) (ds.map avSpot) ((pre ++ rs).map avSpot) z Z1 Z2 Z3 n (es.map avSEdge) (ds'.map avSpot) ((pre' ++ ts).map avSpot) =
      some (if chk es ds ds' n rs ts then .inr (z, Z1, Z2, Z3, n, es.map avSEdge, ds'.map avSpot, (pre' ++ ts).map avSpot) else .inl (12, 0, [], [], []))
  | [], ts, pre, pre', ht, hL, hl, hs, hs', hp => by
    obtain rfl : ts = [] := List.length_eq_zero_iff.1 ht.symm
    refine li_Rename_1 _ _ _ _ _ _ _ _ _ _ _ _ _ _ ?_
    have : ¬ (pre.length : Int) < (L : Int) := by simp at hL; omega
    simp [chk, this]
  | r :: rs, [], pre, pre', ht, hL, hl, hs, hs', hp => by simp at ht
  | r :: rs, t :: ts, pre, pre', ht, hL, hl, hs, hs', hp => by
    have hm := mid_len pre rs r
    have hm3 : (pre.length : Int) < (L : Int) := by omega
    have ih := rn_i1 z Z1 Z2 Z3 L rs ts (pre ++ [r]) (pre' ++ [t]) (by simpa using ht) (by simpa using hL) hl (by simpa using hs) (by simpa using hs') (by simp [hp])
    simp only [List.append_assoc, List.cons_append, List.nil_append, show ∀ x : SpotD, (pre ++ [x]).length = pre.length + 1 from fun x => by simp] at ih
    have hr := rs_mid n h0 h2 es ds he hd l1 l2 pre rs r hs
    have hr' := rs_mid n h0 h2 es ds' he hd' l1 l2' pre' ts t hs'
    rw [← hp] at hr'
    have hLn := Nat.le_trans (lvR_len es r.1 r.2 ds n) l2
    have hLn' := Nat.le_trans (lvR_len es t.1 t.2 ds' n) l2'
    refine li_Rename_1 _ _ _ _ _ _ _ _ _ _ _ _ _ _ ?_
    simp only [hm3, decide_true, cond_true, hr, hr', asRoL_map asRo_SEdge, asRoL_map asRo_Spot, asRoL_map asRo_iv, noRoL_map noRo_iv, Bool.and_self, Option.bind_some, wrap_succ hm (by omega), ih, chk]
    have hq := same_i (lvR es r.1 r.2 ds n) (lvR es t.1 t.2 ds' n) (by omega)
    by_cases g : lvR es r.1 r.2 ds n = lvR es t.1 t.2 ds' n
    · have gd := decide_eq_true g
      simp only [hq, gd, Option.bind_some, Bool.not_true, cond_false, Bool.true_and]
    · have gd := decide_eq_false g
      simp only [hq, gd, Option.bind_some, Bool.not_false, cond_true, Bool.false_and, Bool.false_eq_true, if_false]
theorem rn_s1' (z : Int) (Z1 Z2 Z3 : List AVal) (rs ts : List SpotD) (ht : rs.length = ts.length) (hl : rs.length ≤ 120) (hs : spG n rs) (hs' : spG n ts) :
    Ls_Rename_1 0 n (es.map avSEdge) (ds.map avSpot) (rs.map avSpot) z Z1 Z2 Z3 n (es.map avSEdge) (ds'.map avSpot) (ts.map avSpot) =
      some (if rs = [] then .inr (.inl (z, Z1, Z2, Z3, n, es.map avSEdge, ds'.map avSpot, ts.map avSpot)) else if chk es ds ds' n rs ts then .inr (.inr (z, Z1, Z2, Z3, n, es.map avSEdge, ds'.map avSpot, ts.map avSpot)) else .inl (12, 0, [], [], [])) := by
  cases rs with
  | nil =>
    obtain rfl : ts = [] := List.length_eq_zero_iff.1 ht.symm
    refine ls_Rename_1 _ _ _ _ _ _ _ _ _ _ _ _ _ ?_
    simp
  | cons r rs =>
    cases ts with
    | nil => simp at ht
    | cons t ts =>
      have ih := rn_s1 n h0 h2 es ds he hd l1 l2 ds' hd' l2' z Z1 Z2 Z3 rs ts [r] [t] (by simpa using ht) (by simpa using hl) (by simpa using hs) (fun d hd => hs' d (by simp [hd])) rfl
      simp only [List.cons_append, List.nil_append, List.length_singleton] at ih
      have hr := lv_spec n h0 h2 es ds ((r :: rs).map avSpot) he hd l1 l2 r.1 (hs r (by simp)) r.2
      have hr' := lv_spec n h0 h2 es ds' ((t :: ts).map avSpot) he hd' l1 l2' t.1 (hs' t (by simp)) t.2
      have hL := Nat.le_trans (lvR_len es r.1 r.2 ds n) l2
      have ew : IntKind.wrap .i64 (0 + 1) = ((1 : Nat) : Int) := by decide
      have p1 : (0 : Int) < (((r :: rs).map avSpot).length : Int) := by simp
      have p2 : (0 : Int) < (((t :: ts).map avSpot).length : Int) := by simp
      have p3 : Nat.blt 0 ((t :: ts).map avSpot).length = true := by simp
      have g1 : ((r :: rs).map avSpot).getD 0 .und = avSpot r := rfl
      have g2 : ((t :: ts).map avSpot).getD 0 .und = avSpot t := rfl
      have b3 : (avSpot t).get [0] = .int .i64 t.1 := rfl
      have b4 : (avSpot t).get [1] = .str t.2 := rfl
      have b5 : CT.shape (.int .i64) (.int .i64 t.1) = true := rfl
      have b6 : CT.shape .str (.str t.2) = true := rfl
      have b8 : (AVal.int .i64 t.1).toInt = t.1 := rfl
      have b9 : (AVal.str t.2).toStr = t.2 := rfl
      refine ls_Rename_1 _ _ _ _ _ _ _ _ _ _ _ _ _ ?_
      simp only [Int.toNat_zero, p1, p2, p3, Int.le_refl, decide_true, Bool.and_self, cond_true, g1, g2, sh_Spot, c0_Spot, c1_Spot, a_spot, b_spot, b3, b4, b5, b6, b8, b9, asRoL_map asRo_SEdge, asRoL_map asRo_Spot, hr, hr', Option.bind_some, ew, ih, chk, reduceCtorEq, if_false]
      have hq := same_s (lvR es r.1 r.2 ds n) (lvR es t.1 t.2 ds' n) (by omega)
      by_cases g : lvR es r.1 r.2 ds n = lvR es t.1 t.2 ds' n
      · have gd := decide_eq_true g
        simp only [hq, gd, Option.bind_some, Bool.not_true, cond_false, Bool.true_and]
      · have gd := decide_eq_false g
        simp only [hq, gd, Option.bind_some, Bool.not_false, cond_true, Bool.false_and, Bool.false_eq_true, if_false]
end
def renV (n : Int) (es : List SEdgeD) (ds rs : List SpotD) (decl : Int) (nm : ByteArray) : Int × List SEdgeD × List SpotD × List SpotD × Int :=
  if sgQ n es ds rs = true ∧ nmOK nm = true then
    if h : 0 ≤ decl ∧ decl.toNat < ds.length then
      match ren0 es ds n decl nm rs with
      | none => (0, [], [], [], 5)
      | some ts => if chk es ds (ds.set decl.toNat (ds[decl.toNat].1, nm)) n rs ts = true then (n, es, ds.set decl.toNat (ds[decl.toNat].1, nm), ts, 0) else (0, [], [], [], 12)
    else (0, [], [], [], 4)
  else (0, [], [], [], 1)
theorem renV_len (n : Int) (es : List SEdgeD) (ds rs : List SpotD) (decl : Int) (nm : ByteArray) : (renV n es ds rs decl nm).2.1.length ≤ 120 ∧ (renV n es ds rs decl nm).2.2.1.length ≤ 120 ∧ (renV n es ds rs decl nm).2.2.2.1.length ≤ 120 := by
  unfold renV
  split
  · rename_i h
    obtain ⟨_, _, _, _, l1, l2, l3⟩ := sgQ_of h.1
    split
    · split
      · simp
      · rename_i ts hts
        split
        · have := ren0_len _ _ _ _ _ _ _ hts
          simp only [List.length_set]
          omega
        · simp
    · simp
  · simp
def avR (v : Int × List SEdgeD × List SpotD × List SpotD × Int) : Int × List AVal × List AVal × List AVal × Int := (v.1, v.2.1.map avSEdge, v.2.2.1.map avSpot, v.2.2.2.1.map avSpot, v.2.2.2.2)
theorem set_g {n : Int} {ds : List SpotD} (hd : spG n ds) (k : Nat) (x : SpotD) (hx : 0 ≤ x.1 ∧ x.1 < n) : spG n (ds.set k x) := fun d h => by
  rcases List.mem_or_eq_of_mem_set h with q | rfl
  · exact hd d q
  · exact hx
theorem rn_spec (n : Int) (es : List SEdgeD) (ds rs : List SpotD) (decl : Int) (nm : ByteArray) : Fs_Rename n (es.map avSEdge) (ds.map avSpot) (rs.map avSpot) decl nm = some (avR (renV n es ds rs decl nm)) := by
  refine us_Rename _ _ _ _ _ _ ?_
  unfold renV
  by_cases g : sgQ n es ds rs = true
  · obtain ⟨⟨h0, h2⟩, he, hd, hr, l1, l2, l3⟩ := sgQ_of g
    by_cases g0 : nmOK nm = true
    · have ew : IntKind.wrap .i64 ((ds.length : Int) - 1) = (ds.length : Int) - 1 := wrap64 (by omega) (by omega)
      by_cases g1 : 0 ≤ decl ∧ decl.toNat < ds.length
      · obtain ⟨k, rfl⟩ : ∃ k : Nat, decl = k := ⟨decl.toNat, by omega⟩
        simp only [Int.toNat_natCast] at g1
        have hq : inQ 0 ((ds.length : Int) - 1) (k : Int) = true := by simp only [inQ, Bool.and_eq_true, decide_eq_true_eq]; omega
        have hk := g1.2
        have hg := getD_map avSpot g1.2
        have hc1 : capB (0 + es.length) 24 = true := capB_le (by omega)
        have hc2 : capB (0 + ds.length) 24 = true := capB_le (by omega)
        have hc3 : capB (0 + rs.length) 24 = true := capB_le (by omega)
        have hset : (ds.map avSpot).set k (avSpot (ds[k].1, nm)) = (ds.set k (ds[k].1, nm)).map avSpot := by rw [List.map_set]
        have hd' := set_g hd k (ds[k].1, nm) (hd ds[k] (List.getElem_mem hk))
        have l2' : (ds.set k (ds[k].1, nm)).length ≤ 120 := by simpa using l2
        generalize hD : ds.set k (ds[k].1, nm) = ds' at hset hd' l2'
        have e0 := rn_s0 n h0 h2 es ds he hd l1 l2 (k : Int) nm 0 [] [] [] n (es.map avSEdge) (ds'.map avSpot) rs [] [] (by simpa using l3) (by simpa using hr) rfl
        simp only [List.nil_append, List.length_nil, Int.natCast_zero] at e0
        simp only [sg_spec, g, g0, s108, Option.bind_some, Bool.not_true, cond_false, List.length_map, ew, s61', hq, hc1, hc2, hc3, Int.toNat_natCast, dlt_true hk, blt_true hk, d0_true, Bool.and_self, cond_true, hg, p0_Spot, c0_Spot, a_spot, b_spot, s_set, bnd_eq, hset, hD, e0, decide_true, and_self, if_true, g1.1, hk, dite_true]
        cases hn : ren0 es ds n (k : Int) nm rs with
        | none => simp only [Option.bind_some, Sum.elim_inl, asRoL, avR, List.map_nil]
        | some ts =>
          have hl := ren0_len _ _ _ _ _ _ _ hn
          have e1 := rn_s1' n h0 h2 es ds he hd l1 l2 ds' hd' l2' 0 [] [] [] rs ts hl.symm l3 hr (ren0_g _ _ _ _ _ _ _ hn hr)
          simp only [Option.bind_some, Sum.elim_inr, e1]
          by_cases q : rs = []
          · subst q
            obtain rfl : ts = [] := List.length_eq_zero_iff.1 hl
            have : chk es ds ds' n [] [] = true := rfl
            simp only [if_true, Sum.elim_inr, Sum.elim_inl, this, asRoL_map asRo_SEdge, asRoL_map asRo_Spot, avR]
          · by_cases c : chk es ds ds' n rs ts = true
            · simp only [q, c, if_false, if_true, Sum.elim_inr, avR]
            · simp only [q, Bool.eq_false_iff.2 c, Bool.false_eq_true, if_false, Sum.elim_inl, asRoL, avR, List.map_nil]
      · have hq : inQ 0 ((ds.length : Int) - 1) decl = false := by simp only [inQ, Bool.and_eq_false_iff, decide_eq_false_iff_not]; omega
        simp only [sg_spec, g, g0, s108, Option.bind_some, Bool.not_true, cond_false, List.length_map, ew, s61', hq, Bool.not_false, cond_true, and_self, if_true, g1, dite_false, avR, List.map_nil]
    · simp only [sg_spec, g, Bool.eq_false_iff.2 g0, s108, Option.bind_some, Bool.not_true, Bool.not_false, cond_false, cond_true, Bool.false_eq_true, and_false, if_false, avR, List.map_nil]
  · simp only [sg_spec, Bool.eq_false_iff.2 g, Option.bind_some, Bool.not_false, cond_true, Bool.false_eq_true, false_and, if_false, avR, List.map_nil]
theorem rn_impl (n : Int) (es : List SEdgeD) (ds rs : List SpotD) (decl : Int) (nm : ByteArray) : Fi_Rename n (es.map avSEdge) (ds.map avSpot) (rs.map avSpot) decl nm = some (avR (renV n es ds rs decl nm)) := by
  refine ui_Rename _ _ _ _ _ _ ?_
  unfold renV
  by_cases g : sgQ n es ds rs = true
  · obtain ⟨⟨h0, h2⟩, he, hd, hr, l1, l2, l3⟩ := sgQ_of g
    by_cases g0 : nmOK nm = true
    · by_cases g1 : 0 ≤ decl ∧ decl.toNat < ds.length
      · obtain ⟨k, rfl⟩ : ∃ k : Nat, decl = k := ⟨decl.toNat, by omega⟩
        simp only [Int.toNat_natCast] at g1
        have n1 : ¬ (k : Int) < 0 := by omega
        have n2 : ¬ (ds.length : Int) ≤ (k : Int) := by omega
        have hk := g1.2
        have hg := getD_map avSpot g1.2
        have hc1 : capB (0 + es.length) 24 = true := capB_le (by omega)
        have hc2 : capB (0 + ds.length) 24 = true := capB_le (by omega)
        have hc3 : capB (0 + rs.length) 24 = true := capB_le (by omega)
        have hset : (ds.map avSpot).set k (avSpot (ds[k].1, nm)) = (ds.set k (ds[k].1, nm)).map avSpot := by rw [List.map_set]
        have hd' := set_g hd k (ds[k].1, nm) (hd ds[k] (List.getElem_mem hk))
        have l2' : (ds.set k (ds[k].1, nm)).length ≤ 120 := by simpa using l2
        generalize hD : ds.set k (ds[k].1, nm) = ds' at hset hd' l2'
        have e0 := rn_i0 n h0 h2 es ds he hd l1 l2 (k : Int) nm 0 [] [] [] n (es.map avSEdge) (ds'.map avSpot) rs.length rs [] [] rfl l3 (by simpa using hr) rfl
        simp only [List.nil_append, List.length_nil, Int.natCast_zero] at e0
        simp only [sg_impl, g, g0, s87, Option.bind_some, Bool.not_true, cond_false, List.length_map, n1, n2, decide_false, hc1, hc2, hc3, Int.toNat_natCast, dlt_true hk, blt_true hk, d0_true, Bool.and_self, cond_true, hg, a_spot, b_spot, i_set, bnd_eq, hset, hD, e0, decide_true, and_self, if_true, g1.1, hk, dite_true]
        cases hn : ren0 es ds n (k : Int) nm rs with
        | none => simp only [Option.bind_some, Sum.elim_inl, avR, List.map_nil]
        | some ts =>
          have hl := ren0_len _ _ _ _ _ _ _ hn
          have e1 := rn_i1 n h0 h2 es ds he hd l1 l2 ds' hd' l2' 0 [] [] [] rs.length rs ts [] [] hl.symm rfl l3 (by simpa using hr) (by simpa using ren0_g _ _ _ _ _ _ _ hn hr) rfl
          simp only [List.nil_append, List.length_nil, Int.natCast_zero] at e1
          simp only [Option.bind_some, Sum.elim_inr, List.length_map, e1]
          by_cases c : chk es ds ds' n rs ts = true
          · simp only [c, if_true, Sum.elim_inr, avR]
          · simp only [Bool.eq_false_iff.2 c, Bool.false_eq_true, if_false, Sum.elim_inl, avR, List.map_nil]
      · by_cases n1 : decl < 0
        · simp only [sg_impl, g, g0, s87, Option.bind_some, Bool.not_true, cond_false, n1, decide_true, cond_true, and_self, if_true, g1, dite_false, avR, List.map_nil]
        · have n2 : (ds.length : Int) ≤ decl := by omega
          simp only [sg_impl, g, g0, s87, Option.bind_some, Bool.not_true, cond_false, List.length_map, n1, n2, decide_false, decide_true, cond_true, and_self, if_true, g1, dite_false, avR, List.map_nil]
    · simp only [sg_impl, g, Bool.eq_false_iff.2 g0, s87, Option.bind_some, Bool.not_true, Bool.not_false, cond_false, cond_true, Bool.false_eq_true, and_false, if_false, avR, List.map_nil]
  · simp only [sg_impl, Bool.eq_false_iff.2 g, Option.bind_some, Bool.not_false, cond_true, Bool.false_eq_true, false_and, if_false, avR, List.map_nil]
theorem hdSg (n k : Int) (a b c : Nat) (h1 : a ≤ 1048576) (h2 : b ≤ 1048576) (h3 : c ≤ 1048576) (k0 : 0 ≤ k) (k1 : k ≤ 100000000) :
    Fl_heldSg n ((mkSEdgeS k a).map avSEdge) ((mkSpotS (k + 3 * a) b).map avSpot) ((mkSpotS (k + 3 * a + 2 * b) c).map avSpot) k = some (k + 3 * a + 2 * b + 2 * c) := by
  refine ul_heldSg _ _ _ _ _ ?_
  have q1 : ¬ (k + 3 * (a : Int) < 0) := by omega
  have q2 : ¬ (k + 3 * (a : Int) + 2 * (b : Int) < 0) := by omega
  have q3 : ¬ (k + 3 * (a : Int) + 2 * (b : Int) + 2 * (c : Int) < 0) := by omega
  simp only [hdSEdgeS a k h1 k0 (by omega), Option.bind_some, q1, decide_false, cond_false, hdSpotS b (k + 3 * a) h2 (by omega) (by omega), q2, hdSpotS c (k + 3 * a + 2 * b) h3 (by omega) (by omega), q3]
theorem lawRn (n : Int) (es : List SEdgeD) (ds rs : List SpotD) (decl : Int) (nm : ByteArray) (h1 : es.length ≤ maxLen) (h2 : ds.length ≤ maxLen) (h3 : rs.length ≤ maxLen) (w1 : ∀ x ∈ es, wfSEdge x) (w2 : ∀ x ∈ ds, wfSpot x) (w3 : ∀ x ∈ rs, wfSpot x) :
    Fl_FnExactRename n (es.map avSEdge) (ds.map avSpot) (rs.map avSpot) decl nm = some true := by
  refine ul_FnExactRename _ _ _ _ _ _ ?_
  by_cases g0 : (1048576 : Int) < (nm.size : Int)
  · simp only [g0, decide_true, cond_true]
  simp only [g0, decide_false, cond_false, tzSg n es ds rs h1 h2 h3 w1 w2 w3, Option.bind_some]
  by_cases g : szR 1048576 (szSgN es ds rs) < 0
  · simp only [g, decide_true, cond_true]
  have hs := szR_nn g
  unfold szSgN at hs
  have l1 : es.length ≤ 1048576 := by omega
  have l2 : ds.length ≤ 1048576 := by omega
  have l3 : rs.length ≤ 1048576 := by omega
  have lv := renV_len n es ds rs decl nm
  have es' := rn_spec n es ds rs decl nm
  have ei' := rn_impl n es ds rs decl nm
  generalize renV n es ds rs decl nm = V at lv es' ei'
  obtain ⟨vn, ve, vd, vr, vc⟩ := V
  simp only at lv
  have em := mkSg n 1 es ds rs l1 l2 l3 (by omega) (by omega)
  have em2 := mkSg vn 1 ve vd vr (by omega) (by omega) (by omega) (by omega) (by omega)
  have eh := hdSg vn 1 ve.length vd.length vr.length (by omega) (by omega) (by omega) (by omega) (by omega)
  have q1 : ¬ ((1 : Int) + 3 * es.length + 2 * ds.length + 2 * rs.length < 0) := by omega
  have q2 : ¬ ((1 : Int) + 3 * ve.length + 2 * vd.length + 2 * vr.length < 0) := by omega
  simp only [g, decide_false, cond_false, toSg n es ds rs l1 l2 l3, asRoL_map asRo_SEdge, asRoL_map asRo_Spot, es', ei', avR, noRoL_map noRo_SEdge, noRoL_map noRo_Spot, Bool.and_self, cond_true, eqSg vn ve vd vr (by omega) (by omega) (by omega), Option.bind_some, Bool.not_true, decide_true, eqSg n es ds rs l1 l2 l3, em, q1, em2, eh, q2]
theorem lawRename : ∀ xs, FitsL ctx [ty_laws_Sg, ty_int, ty_string] xs → ∃ k, vcall ctx k n_l_FnExactRename xs [] = some ([.bool true], []) := by
  intro xs h
  obtain ⟨x, r, rfl, h1, h⟩ := h.cons'
  obtain ⟨y, r, rfl, h2, h⟩ := h.cons'
  obtain ⟨z, r, rfl, h3, h⟩ := h.cons'
  obtain rfl := h.nil'
  obtain ⟨n, es, ds, rs, rfl, ⟨l1, l2, l3⟩, q1, q2, q3⟩ := fitSg h1
  obtain ⟨decl, rfl, _⟩ := h2.int' (k := .i64) (by kernel_rfl)
  obtain ⟨nm, rfl, _⟩ := h3.str' (by kernel_rfl)
  exact law_of (S := sgl_FnExactRename) (a := (n, es.map avSEdge, ds.map avSpot, rs.map avSpot, decl, nm)) (lawRn n es ds rs decl nm l1 l2 l3 q1 q2 q3) rfl rfl
end Go.Proofs.Ytfniojpjlachoaa
