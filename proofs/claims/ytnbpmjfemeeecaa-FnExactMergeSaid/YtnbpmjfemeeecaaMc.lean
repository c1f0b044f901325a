/- The matches of two rows of trees: both sides find the same; where the trees are not too large. -/
import Derived.Test.YtnbpmjfemeeecaaSm
import Derived.Test.YtnbpmjfemeeecaaLo
namespace Go.Proofs.Ytnbpmjfemeeecaa
open Go.VK AVal
open Tr
/-! Rows by what stands at each place -/
def fn (n : Nat) (g : Nat → AVal) : List AVal := (List.range n).map g
theorem fn_len (n : Nat) (g : Nat → AVal) : (fn n g).length = n := by simp [fn]
theorem fn_get {n i : Nat} (g : Nat → AVal) (h : i < n) : (fn n g).getD i .und = g i := by
  simp [fn, List.getD_eq_getElem?_getD, h]
theorem fn_ext {n : Nat} {g h : Nat → AVal} (e : ∀ i, i < n → g i = h i) : fn n g = fn n h :=
  List.map_congr_left fun i hi => e i (List.mem_range.1 hi)
theorem fn_set {n : Nat} (g : Nat → AVal) (i : Nat) (v : AVal) : (fn n g).set i v = fn n (fun q => if q = i then v else g q) := by
  apply List.ext_getElem?
  intro q
  by_cases hq : q < n
  · by_cases h : i = q
    · subst h; simp [fn, hq]
    · rw [List.getElem?_set_ne h]; simp [fn, hq, Ne.symm h]
  · simp [fn, hq]
theorem fn_rep (n : Nat) (z : AVal) : List.replicate n z = fn n (fun _ => z) := by
  apply List.ext_getElem?
  intro q
  by_cases hq : q < n <;> simp [fn, hq]
/-- a row of numbers -/
def rowt (m : Nat) (f : Nat → Int) : AVal := .own 1 (fn (m + 1) fun j => iv (f j))
/-- a row of truth values -/
def rowb (m : Nat) (f : Nat → Bool) : AVal := .own 1 (fn m fun j => .bool (f j))
def up1 {α : Type} (f : Nat → α) (j : Nat) (v : α) : Nat → α := fun q => if q = j then v else f q
theorem up1_self {α : Type} (f : Nat → α) (j : Nat) (v : α) : up1 f j v j = v := by simp [up1]
theorem up1_ne {α : Type} (f : Nat → α) {j q : Nat} (v : α) (h : q ≠ j) : up1 f j v q = f q := by simp [up1, h]
theorem rowt_shape (m : Nat) (f : Nat → Int) : CT.shape (.slice 1) (rowt m f) = true := rfl
theorem rowt_len (m : Nat) (f : Nat → Int) : (rowt m f).elems.length = m + 1 := fn_len ..
theorem get_nil2 (x : AVal) : x.get [] = x := by cases x <;> rfl
theorem okg_nil2 (x : AVal) : x.okg [] = true := by cases x <;> rfl
theorem okp_nil2 (x : AVal) : x.okp [] = true := by cases x <;> rfl
theorem put_nil2 (x y : AVal) : x.put [] y = y := by cases x <;> rfl
theorem rowt_get {m j : Nat} (f : Nat → Int) (h : j ≤ m) : (rowt m f).get [j] = iv (f j) := by
  simp only [rowt, AVal.get, fn_get _ (show j < m + 1 by omega)]
theorem rowt_okg {m j : Nat} (f : Nat → Int) (h : j ≤ m) : (rowt m f).okg [j] = true := by
  simp only [rowt, AVal.okg, fn_len, Bool.and_true]; simpa using (show j < m + 1 by omega)
theorem rowt_okp {m j : Nat} (f : Nat → Int) (h : j ≤ m) : (rowt m f).okp [j] = true := by
  simp only [rowt, AVal.okp, fn_len, Bool.and_true]; simpa using (show j < m + 1 by omega)
theorem rowt_put {m : Nat} (f : Nat → Int) (j : Nat) (v : Int) : (rowt m f).put [j] (.int .i64 v) = rowt m (up1 f j v) := by
  simp only [rowt, AVal.put, fn_set]
  congr 1
  refine fn_ext fun q _ => ?_
  simp only [up1]
  split <;> rfl
theorem rowb_shape (m : Nat) (f : Nat → Bool) : CT.shape (.slice 1) (rowb m f) = true := rfl
theorem rowb_len (m : Nat) (f : Nat → Bool) : (rowb m f).elems.length = m := fn_len ..
theorem rowb_get {m j : Nat} (f : Nat → Bool) (h : j < m) : (rowb m f).get [j] = .bool (f j) := by
  simp only [rowb, AVal.get, fn_get _ h]
theorem rowb_okg {m j : Nat} (f : Nat → Bool) (h : j < m) : (rowb m f).okg [j] = true := by
  simp only [rowb, AVal.okg, fn_len, Bool.and_true]; simpa using h
theorem rowb_okp {m j : Nat} (f : Nat → Bool) (h : j < m) : (rowb m f).okp [j] = true := by
  simp only [rowb, AVal.okp, fn_len, Bool.and_true]; simpa using h
theorem rowb_put {m : Nat} (f : Nat → Bool) (j : Nat) (v : Bool) : (rowb m f).put [j] (.bool v) = rowb m (up1 f j v) := by
  simp only [rowb, AVal.put, fn_set]
  congr 1
  refine fn_ext fun q _ => ?_
  simp only [up1]
  split <;> rfl
/-- a table, done from row hi on -/
def tabv (n m hi : Nat) (T : Nat → Nat → Int) : List AVal := fn (n + 1) fun i => if hi ≤ i then rowt m (T i) else .own 1 []
def eqv (n m hi : Nat) (E : Nat → Nat → Bool) : List AVal := fn n fun i => if hi ≤ i then rowb m (E i) else .own 1 []
theorem tabv_len (n m hi : Nat) (T : Nat → Nat → Int) : (tabv n m hi T).length = n + 1 := fn_len ..
theorem eqv_len (n m hi : Nat) (E : Nat → Nat → Bool) : (eqv n m hi E).length = n := fn_len ..
theorem tabv_get {n m hi i : Nat} (T : Nat → Nat → Int) (h1 : hi ≤ i) (h2 : i ≤ n) : (tabv n m hi T).getD i .und = rowt m (T i) := by
  simp only [tabv, fn_get _ (show i < n + 1 by omega), if_pos h1]
theorem eqv_get {n m hi i : Nat} (E : Nat → Nat → Bool) (h1 : hi ≤ i) (h2 : i < n) : (eqv n m hi E).getD i .und = rowb m (E i) := by
  simp only [eqv, fn_get _ h2, if_pos h1]
theorem tabv_agg {n m hi i : Nat} (T : Nat → Nat → Int) (h2 : i ≤ n) : aggQ ((tabv n m hi T).getD i .und) = false := by
  simp only [tabv, fn_get _ (show i < n + 1 by omega)]; split <;> rfl
theorem eqv_agg {n m hi i : Nat} (E : Nat → Nat → Bool) (h2 : i < n) : aggQ ((eqv n m hi E).getD i .und) = false := by
  simp only [eqv, fn_get _ h2]; split <;> rfl
theorem tabv_set {n m hi i : Nat} (T : Nat → Nat → Int) (f : Nat → Int) (h : hi ≤ i) : (tabv n m hi T).set i (rowt m f) = tabv n m hi (up1 T i f) := by
  simp only [tabv, fn_set]
  refine fn_ext fun q _ => ?_
  simp only [up1]
  by_cases hq : q = i
  · subst hq; simp [h]
  · simp [hq]
theorem tabv_open {n m i : Nat} (T : Nat → Nat → Int) (f : Nat → Int) : (tabv n m (i + 1) T).set i (rowt m f) = tabv n m i (up1 T i f) := by
  simp only [tabv, fn_set]
  refine fn_ext fun q _ => ?_
  simp only [up1]
  by_cases hq : q = i
  · subst hq; simp
  · by_cases h : i + 1 ≤ q
    · have : i ≤ q := by omega
      simp [hq, h, this]
    · have : ¬ i ≤ q := by omega
      simp [hq, h, this]
theorem eqv_set {n m hi i : Nat} (E : Nat → Nat → Bool) (f : Nat → Bool) (h : hi ≤ i) : (eqv n m hi E).set i (rowb m f) = eqv n m hi (up1 E i f) := by
  simp only [eqv, fn_set]
  refine fn_ext fun q _ => ?_
  simp only [up1]
  by_cases hq : q = i
  · subst hq; simp [h]
  · simp [hq]
theorem eqv_open {n m i : Nat} (E : Nat → Nat → Bool) (f : Nat → Bool) : (eqv n m (i + 1) E).set i (rowb m f) = eqv n m i (up1 E i f) := by
  simp only [eqv, fn_set]
  refine fn_ext fun q _ => ?_
  simp only [up1]
  by_cases hq : q = i
  · subst hq; simp
  · by_cases h : i + 1 ≤ q
    · have : i ≤ q := by omega
      simp [hq, h, this]
    · have : ¬ i ≤ q := by omega
      simp [hq, h, this]
theorem eqv_skip {n m : Nat} (E : Nat → Nat → Bool) : eqv n m (n + 1) E = eqv n m n E := fn_ext fun q hq => by
  have h1 : ¬ n + 1 ≤ q := by omega
  have h2 : ¬ n ≤ q := by omega
  simp [h1, h2]
def dT : Tr := .mk ByteArray.empty ByteArray.empty false []
def nth (xs : List Tr) (i : Nat) : Tr := xs.getD i dT
theorem nth_av {xs : List Tr} {i : Nat} (h : i < xs.length) : (avs xs).getD i .und = av (nth xs i) := by
  rw [avs_map, getD_map' av dT h]; rfl
theorem nth_mem {xs : List Tr} {i : Nat} (h : i < xs.length) : nth xs i ∈ xs := getD_mem dT h
theorem sz_mem : ∀ {xs : List Tr} {x : Tr}, x ∈ xs → sz x ≤ szs xs
  | y :: ys, x, h => by
    simp only [szs]
    rcases List.mem_cons.1 h with rfl | h
    · omega
    · have := sz_mem h; omega
/-- are two of them the same? -/
def EQ (us vs : List Tr) (i j : Nat) : Bool := sameT (nth us i) (nth vs j)
/-- the table's numbers stay small -/
def Bd (n : Nat) (T : Nat → Nat → Int) : Prop := ∀ i j, i ≤ n → 0 ≤ T i j ∧ T i j ≤ (n : Int) - i
theorem wrap_pred {j : Nat} (h : j ≤ 9000000000000000000) : IntKind.wrap .i64 ((j : Int) - 1) = (j : Int) - 1 := wrap64 (by omega) (by omega)
section
variable {us vs : List Tr} {n m : Nat}
theorem mrow (hn : us.length = n) (hm : vs.length = m) (hn1 : n ≤ 1048576) (hm1 : m ≤ 1048576) (ha : szs us ≤ 1048576) (hb : szs vs ≤ 1048576) {i : Nat} (hi : i < n) : ∀ k, k ≤ m → ∀ T E, Bd n T → ∃ T' E', Bd n T' ∧
    Ls_l15Match_1 (avs us) (avs vs) (i : Int) ((k : Int) - 1) (tabv n m i T) = some (avs us, avs vs, (i : Int), tabv n m i T') ∧
    Li_matched_1 (avs us) (avs vs) (i : Int) ((k : Int) - 1) (tabv n m i T) (eqv n m i E) = some (avs us, avs vs, (i : Int), tabv n m i T', eqv n m i E') ∧
    (∀ j, j < k → E' i j = EQ us vs i j) ∧ (∀ r j, ¬ (r = i ∧ j < k) → E' r j = E r j)
  | 0, _, T, E, hT => by
    refine ⟨T, E, hT, ls_l15Match_1 _ _ _ _ _ ?_, li_matched_1 _ _ _ _ _ _ ?_, fun j h => by omega, fun _ _ _ => rfl⟩ <;> rfl
  | j + 1, hk, T, E, hT => by
    have hx : ((j + 1 : Nat) : Int) - 1 = (j : Int) := by omega
    have hj : j < m := by omega
    have hj' : j ≤ m := by omega
    have hj1 : j + 1 ≤ m := by omega
    have hi' : i ≤ n := by omega
    have hi1 : i + 1 ≤ n := by omega
    have hin : i < us.length := by omega
    have hjn : j < vs.length := by omega
    obtain ⟨b1, b2⟩ := hT i (j + 1) hi'
    obtain ⟨b3, b4⟩ := hT (i + 1) j hi1
    obtain ⟨b5, b6⟩ := hT (i + 1) (j + 1) hi1
    have hse : sz (nth us i) ≤ 1048576 := Nat.le_trans (sz_mem (nth_mem hin)) ha
    have hsf : sz (nth vs j) ≤ 1048576 := Nat.le_trans (sz_mem (nth_mem hjn)) hb
    -- the cell's number
    obtain ⟨c, hc⟩ : ∃ c : Int, c = (if T (i + 1) j < T i (j + 1) then T i (j + 1) else T (i + 1) j) := ⟨_, rfl⟩
    obtain ⟨v, hv⟩ : ∃ v : Int, v = (if EQ us vs i j = true ∧ c < T (i + 1) (j + 1) + 1 then T (i + 1) (j + 1) + 1 else c) := ⟨_, rfl⟩
    have hcb : 0 ≤ c ∧ c ≤ (n : Int) - i := by rw [hc]; split <;> omega
    have hvb : 0 ≤ v ∧ v ≤ (n : Int) - i := by rw [hv]; split <;> omega
    have hTb : Bd n (up1 T i (up1 (T i) j v)) := fun r q hr => by
      by_cases h1 : r = i
      · subst h1
        rw [up1_self]
        by_cases h2 : q = j
        · subst h2; rw [up1_self]; exact hvb
        · rw [up1_ne _ _ h2]; exact hT r q hr
      · rw [up1_ne _ _ h1]; exact hT r q hr
    obtain ⟨T', E', r1, r2, r3, r4, r5⟩ := mrow hn hm hn1 hm1 ha hb hi j hj' (up1 T i (up1 (T i) j v)) (up1 E i (up1 (E i) j (EQ us vs i j))) hTb
    have w1 : IntKind.wrap .i64 ((i : Int) + 1) = ((i + 1 : Nat) : Int) := wrap_i (by omega)
    have w2 : IntKind.wrap .i64 ((j : Int) + 1) = ((j + 1 : Nat) : Int) := wrap_i (by omega)
    have w3 : IntKind.wrap .i64 (T (i + 1) (j + 1) + 1) = T (i + 1) (j + 1) + 1 := wrap64 (by omega) (by omega)
    have w3' : IntKind.wrap .i64 (1 + T (i + 1) (j + 1)) = T (i + 1) (j + 1) + 1 := by rw [wrap64 (by omega) (by omega)]; omega
    have w4 := wrap_pred (j := j) (by omega)
    have l1 : i < n + 1 := by omega
    have l2 : i + 1 < n + 1 := by omega
    have l3 : j < m + 1 := by omega
    have l4 : j + 1 < m + 1 := by omega
    have agi : ∀ x : Int, aggQ (iv x) = false := fun _ => rfl
    have agb : ∀ x : Bool, aggQ (.bool x) = false := fun _ => rfl
    have shb : ∀ x : Bool, CT.shape .bool (.bool x) = true := fun _ => rfl
    have tob : ∀ x : Bool, (AVal.bool x).toBool = x := fun _ => rfl
    refine ⟨T', E', r1, ?_, ?_, fun q hq => ?_, fun r q hrq => ?_⟩
    · rw [hx]
      refine ls_l15Match_1 _ _ _ _ _ ?_
      simp only [Int.toNat_natCast, w1, w2, w3, w4, d0_true, cond_true, hn, hm, avs_len, lt_true hi, lt_true hj, tabv_len, lt_true l1, lt_true l2, blt_true l1, blt_true l2, Bool.and_self, tabv_get T (Nat.le_refl i) hi', tabv_get T (Nat.le_succ i) hi1, rowt_shape, rowt_len, lt_true l3, lt_true l4, rowt_okg _ hj', rowt_okg _ hj1, rowt_okp _ hj', rowt_get _ hj', rowt_get _ hj1, e_int, e_toInt, nth_av hin, nth_av hjn, av_shape, av_0, av_1, av_2, av_3, same_s _ _ hse hsf, Option.bind_some, agi, Bool.not_false, rowt_put, tabv_set T _ (Nat.le_refl i), bnd_eq]
      by_cases g1 : T (i + 1) j < T i (j + 1)
      · have hc' : c = T i (j + 1) := by rw [hc, if_pos g1]
        simp only [g1, decide_true, cond_true]
        cases ge : sameT (nth us i) (nth vs j) with
        | false =>
          have : v = T i (j + 1) := by rw [hv, if_neg (by simp [EQ, ge]), hc']
          simp only [cond_false]; rw [← this]; exact r2
        | true =>
          simp only [cond_true]
          by_cases g2 : T i (j + 1) < T (i + 1) (j + 1) + 1
          · have : v = T (i + 1) (j + 1) + 1 := by rw [hv, hc', if_pos ⟨ge, g2⟩]
            simp only [g2, decide_true, cond_true]; rw [← this]; exact r2
          · have : v = T i (j + 1) := by rw [hv, hc', if_neg (fun h => g2 h.2)]
            simp only [g2, decide_false, cond_false]; rw [← this]; exact r2
      · have hc' : c = T (i + 1) j := by rw [hc, if_neg g1]
        simp only [g1, decide_false, cond_false]
        cases ge : sameT (nth us i) (nth vs j) with
        | false =>
          have : v = T (i + 1) j := by rw [hv, if_neg (by simp [EQ, ge]), hc']
          simp only [cond_false]; rw [← this]; exact r2
        | true =>
          simp only [cond_true]
          by_cases g2 : T (i + 1) j < T (i + 1) (j + 1) + 1
          · have : v = T (i + 1) (j + 1) + 1 := by rw [hv, hc', if_pos ⟨ge, g2⟩]
            simp only [g2, decide_true, cond_true]; rw [← this]; exact r2
          · have : v = T (i + 1) j := by rw [hv, hc', if_neg (fun h => g2 h.2)]
            simp only [g2, decide_false, cond_false]; rw [← this]; exact r2
    · rw [hx]
      refine li_matched_1 _ _ _ _ _ _ ?_
      have ec : (if T i (j + 1) > T (i + 1) j then T i (j + 1) else T (i + 1) j) = c := by rw [hc]
      have eE : up1 E i (up1 (E i) j (sameT (nth us i) (nth vs j))) = up1 E i (up1 (E i) j (EQ us vs i j)) := rfl
      have eEj : up1 E i (up1 (E i) j (sameT (nth us i) (nth vs j))) i = up1 (E i) j (sameT (nth us i) (nth vs j)) := by simp [up1]
      have eEjj : up1 (E i) j (sameT (nth us i) (nth vs j)) j = sameT (nth us i) (nth vs j) := by simp [up1]
      have eT1 : up1 T i (up1 (T i) j c) i = up1 (T i) j c := by simp [up1]
      have eT2 : up1 T i (up1 (T i) j c) (i + 1) = T (i + 1) := by simp [up1]
      have eT3 : up1 (T i) j c j = c := by simp [up1]
      have eT4 : ∀ x, up1 (up1 T i (up1 (T i) j c)) i (up1 (up1 (T i) j c) j x) = up1 T i (up1 (T i) j x) := fun x => by
        funext r q
        by_cases h1 : r = i
        · subst h1
          rw [up1_self, up1_self]
          by_cases h2 : q = j
          · subst h2; rw [up1_self, up1_self]
          · rw [up1_ne _ _ h2, up1_ne _ _ h2, up1_ne _ _ h2]
        · rw [up1_ne _ _ h1, up1_ne _ _ h1, up1_ne _ _ h1]
      simp only [Int.toNat_natCast, w1, w2, w3', w4, d0_true, cond_true, hn, hm, avs_len, lt_true hi, lt_true hj, tabv_len, eqv_len, lt_true l1, lt_true l2, blt_true l1, blt_true l2, blt_true hi, Bool.and_self, Bool.true_and, tabv_get T (Nat.le_refl i) hi', tabv_get T (Nat.le_succ i) hi1, eqv_get E (Nat.le_refl i) hi, rowt_shape, rowb_shape, rowt_len, rowb_len, lt_true l3, lt_true l4, rowt_okg _ hj', rowt_okg _ hj1, rowt_okp _ hj', rowt_get _ hj', rowt_get _ hj1, rowb_okp _ hj, rowb_okg _ hj, rowb_get _ hj, e_int, e_toInt, nth_av hin, nth_av hjn, av_shape, av_0, av_1, av_2, av_3, same_i _ _ hse hsf, Option.bind_some, agi, agb, shb, tob, Bool.not_false, rowt_put, rowb_put, tabv_set T _ (Nat.le_refl i), eqv_set E _ (Nat.le_refl i), bnd_eq, ec, eqv_get _ (Nat.le_refl i) hi, eEj, eEjj, tabv_get _ (Nat.le_refl i) hi', tabv_get _ (Nat.le_succ i) hi1, eT1, eT2, eT3]
      rw [eE]
      cases ge : sameT (nth us i) (nth vs j) with
      | false =>
        have : v = c := by rw [hv, if_neg (by simp [EQ, ge])]
        simp only [cond_false]; rw [← this]; exact r3
      | true =>
        simp only [cond_true]
        have : (if T (i + 1) (j + 1) + 1 > c then T (i + 1) (j + 1) + 1 else c) = v := by
          rw [hv]
          by_cases g2 : c < T (i + 1) (j + 1) + 1
          · rw [if_pos g2, if_pos ⟨ge, g2⟩]
          · rw [if_neg g2, if_neg (fun h => g2 h.2)]
        simp only [this, tabv_set _ _ (Nat.le_refl i), eT4]
        exact r3
    · by_cases h : q = j
      · subst h
        rw [r5 i q (by omega), up1_self, up1_self]
      · exact r4 q (by omega)
    · rw [r5 r q (fun h => hrq ⟨h.1, by omega⟩)]
      by_cases h1 : r = i
      · subst h1
        rw [up1_self]
        by_cases h2 : q = j
        · subst h2; exact absurd ⟨rfl, by omega⟩ hrq
        · rw [up1_ne _ _ h2]
      · rw [up1_ne _ _ h1]
end
end Go.Proofs.Ytnbpmjfemeeecaa
