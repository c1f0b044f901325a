/- The law Unused answers true at all plain arguments; no condition. -/
import Derived.Test.YtfniojpjlachoaaRk
import Derived.Test.YtfniojpjlachoaaRh
import Derived.Test.YtfniojpjlachoaaXe
import Derived.Test.YtfniojpjlachoaaXm
import Derived.Test.YtfniojpjlachoaaMp
import Derived.Test.YtfniojpjlachoaaLo
namespace Go.Proofs.Ytfniojpjlachoaa
open Go.VK AVal
def rD : SpotD := (0, ByteArray.empty)
section
variable (n : Int) (es : List SEdgeD) (ds rs : List SpotD)
/-- what the reference number i resolves to -/
def lvI (i : Nat) : List Int := lvR es (rs.getD i rD).1 (rs.getD i rD).2 ds n
/-- is it used by the references from i on, m of them, or before? -/
def usF (d : Int) : Nat → Nat → Bool → Bool
  | _, 0, s => s
  | i, m + 1, s => usF d (i + 1) m (s || hasI (lvI n es ds rs i) d)
def usQ (d : Int) : Bool := usF n es ds rs d 0 rs.length false
def alF : Nat → Nat → List Int → List Int
  | _, 0, L => L
  | i, m + 1, L => alF (i + 1) m (L ++ lvI n es ds rs i)
theorem alF_has (d : Int) : ∀ m i L, hasI (alF n es ds rs i m L) d = usF n es ds rs d i m (hasI L d)
  | 0, i, L => rfl
  | m + 1, i, L => by
    simp only [alF, usF]
    rw [alF_has d m (i + 1)]
    congr 1
    simp [hasI, List.any_append]
def unF (p : Nat → Bool) : Nat → Nat → List Int → List Int
  | _, 0, o => o
  | i, m + 1, o => unF p (i + 1) m (bif p i then o else o ++ [(i : Int)])
theorem unF_len (p : Nat → Bool) : ∀ m i o, (unF p i m o).length ≤ o.length + m
  | 0, i, o => by simp [unF]
  | m + 1, i, o => by
    simp only [unF]
    have := unF_len p m (i + 1) (bif p i then o else o ++ [(i : Int)])
    have q : (bif p i then o else o ++ [(i : Int)]).length ≤ o.length + 1 := by cases p i <;> simp
    omega
def unV : List Int × Int := bif sgQ n es ds rs then (unF (fun d => usQ n es ds rs (d : Int)) 0 ds.length [], 0) else ([], 1)
end
theorem snoc_iv' (l : List Int) (a : Int) : l.map iv ++ [.int .i64 a] = (l ++ [a]).map iv := by simp [iv]
theorem un_s1 (n : Int) (h0 : 0 ≤ n) (h2 : n ≤ 60) (es : List SEdgeD) (ds rs : List SpotD) (he : edG n es) (hd : spG n ds) (hr : spG n rs) (l1 : es.length ≤ 120) (l2 : ds.length ≤ 120) (l3 : rs.length ≤ 120) (d : Int) (O : List AVal) : ∀ (m i : Nat) (s : Bool), i + m = rs.length →
    Ls_Unused_1 d s (i : Int) n (es.map avSEdge) (ds.map avSpot) (rs.map avSpot) O = some (d, usF n es ds rs d i m s, n, es.map avSEdge, ds.map avSpot, rs.map avSpot, O)
  | 0, i, s, h => by
    refine ls_Unused_1 _ _ _ _ _ _ _ _ ?_
    obtain rfl : i = rs.length := by omega
    simp only [List.length_map, lt_self, cond_false, usF]
  | m + 1, i, s, h => by
    have hi : i < rs.length := by omega
    refine ls_Unused_1 _ _ _ _ _ _ _ _ ?_
    have ih := fun s => un_s1 n h0 h2 es ds rs he hd hr l1 l2 l3 d O m (i + 1) s (by omega)
    have hx := hr _ (getD_mem rD hi)
    have hlen := lvR_len es (rs.getD i rD).1 (rs.getD i rD).2 ds n
    simp only [List.length_map, lt_true hi, d0_true, Bool.and_self, cond_true, Int.toNat_natCast, getD_map' avSpot rD hi, sh_Spot, c0_Spot, c1_Spot, lv_spec n h0 h2 es ds _ he hd l1 l2 _ hx, Option.bind_some, has_s _ d (show (lvR es (rs.getD i rD).1 (rs.getD i rD).2 ds n).length ≤ 1048576 by omega), wrap_i (show i < 9000000000000000000 by omega), ih, usF, lvI]
    cases s with
    | true => simp only [cond_true, Bool.true_or]
    | false => simp only [cond_false, Bool.false_or]
theorem un_s0 (n : Int) (h0 : 0 ≤ n) (h2 : n ≤ 60) (es : List SEdgeD) (ds rs : List SpotD) (he : edG n es) (hd : spG n ds) (hr : spG n rs) (l1 : es.length ≤ 120) (l2 : ds.length ≤ 120) (l3 : rs.length ≤ 120) : ∀ (m i : Nat) (o : List Int), i + m = ds.length → o.length ≤ i →
    Ls_Unused_0 (i : Int) n (es.map avSEdge) (ds.map avSpot) (rs.map avSpot) (o.map iv) = some ((unF (fun d => usQ n es ds rs (d : Int)) i m o).map iv)
  | 0, i, o, h, ho => by
    refine ls_Unused_0 _ _ _ _ _ _ ?_
    obtain rfl : i = ds.length := by omega
    simp only [List.length_map, lt_self, cond_false, unF]
  | m + 1, i, o, h, ho => by
    have hi : i < ds.length := by omega
    have e := un_s1 n h0 h2 es ds rs he hd hr l1 l2 l3 (i : Int) (o.map iv) rs.length 0 false (by omega)
    simp only [Int.natCast_zero] at e
    have c1 : capB (o.length + 1) 8 = true := capB_le (by omega)
    have ih1 := un_s0 n h0 h2 es ds rs he hd hr l1 l2 l3 m (i + 1) o (by omega) (by omega)
    have ih2 := un_s0 n h0 h2 es ds rs he hd hr l1 l2 l3 m (i + 1) (o ++ [(i : Int)]) (by omega) (by simp; omega)
    refine ls_Unused_0 _ _ _ _ _ _ ?_
    simp only [List.length_map, lt_true hi, cond_true, e, Option.bind_some, c1, snoc_iv', wrap_i (show i < 9000000000000000000 by omega), ih1, ih2, unF, usQ]
    cases usF n es ds rs (i : Int) 0 rs.length false <;> rfl
theorem un_spec (n : Int) (es : List SEdgeD) (ds rs : List SpotD) : Fs_Unused n (es.map avSEdge) (ds.map avSpot) (rs.map avSpot) = some ((unV n es ds rs).1.map iv, (unV n es ds rs).2) := by
  refine us_Unused _ _ _ _ ?_
  unfold unV
  simp only [sg_spec, Option.bind_some]
  cases g : sgQ n es ds rs with
  | false => rfl
  | true =>
    obtain ⟨⟨h0, h2⟩, he, hd, hr, l1, l2, l3⟩ := sgQ_of g
    have e := un_s0 n h0 h2 es ds rs he hd hr l1 l2 l3 ds.length 0 [] (by omega) (by simp)
    simp only [Int.natCast_zero, List.map_nil] at e
    simp only [Bool.not_true, cond_false, cond_true, e, Option.bind_some, asRoL_map asRo_iv]
/-! The program -/
theorem ones_dI (L : List Int) (a : Int) : mpIns (.int .i64 a) (.int .i64 1) (dI (ones L)) = dI (ones (L ++ [a])) := by
  rw [ones_snoc, dI_snoc]; rfl
theorem ones_get (L : List Int) (a : Int) : (mpGet (kcode (.int .i64 a)) (dI (ones L))).getD (.int .i64 0) = iv (bif hasI L a then 1 else 0) := by
  have h := dI_get (ones L) a
  rw [show mpGet (kcode (.int .i64 a)) (dI (ones L)) = mpGet (kcode (iv a)) (dI (ones L)) from rfl, h, oiv_getD, dlast_ones]
  have q : (L.any fun x => decide (a = x)) = hasI L a := by
    unfold hasI; congr 1; funext x; by_cases g : a = x
    · subst g; simp
    · simp [g, show ¬ x = a from fun e => g e.symm]
  rw [q]
  cases hasI L a <;> rfl
theorem un_i1 (x0 x1 n : Int) (A B C : List AVal) : ∀ (suf pre : List Int) (L : List Int), (pre ++ suf).length ≤ 1048576 →
    Li_Unused_1 x0 x1 ((pre ++ suf).length : Int) (pre.length : Int) n A B C (dI (ones L)) ((pre ++ suf).map iv) = some (x0, x1, n, A, B, C, dI (ones (L ++ suf)))
  | [], pre, L, hl => by
    refine li_Unused_1 _ _ _ _ _ _ _ _ _ _ ?_
    simp
  | a :: suf, pre, L, hl => by
    have hm := mid_len pre suf a
    have ih := un_i1 x0 x1 n A B C suf (pre ++ [a]) (L ++ [a]) (by simpa using hl)
    simp only [List.append_assoc, List.cons_append, List.nil_append, show (pre ++ [a]).length = pre.length + 1 by simp] at ih
    refine li_Unused_1 _ _ _ _ _ _ _ _ _ _ ?_
    simp only [List.length_map, dlt_true hm, d0_true, Bool.and_self, cond_true, Int.toNat_natCast, map_mid, e_int, e_toInt, blt_true hm, ones_dI, wrap_i (show pre.length < 9000000000000000000 by omega), ih]
theorem un_i0 (n : Int) (h0 : 0 ≤ n) (h2 : n ≤ 60) (es : List SEdgeD) (ds rs : List SpotD) (he : edG n es) (hd : spG n ds) (hr : spG n rs) (l1 : es.length ≤ 120) (l2 : ds.length ≤ 120) (l3 : rs.length ≤ 120) : ∀ (m i : Nat) (L : List Int), i + m = rs.length →
    Li_Unused_0 (rs.length : Int) (i : Int) n (es.map avSEdge) (ds.map avSpot) (rs.map avSpot) (dI (ones L)) = some (n, es.map avSEdge, ds.map avSpot, rs.map avSpot, dI (ones (alF n es ds rs i m L)))
  | 0, i, L, h => by
    refine li_Unused_0 _ _ _ _ _ _ _ ?_
    obtain rfl : i = rs.length := by omega
    simp only [lt_self, cond_false, alF]
  | m + 1, i, L, h => by
    have hi : i < rs.length := by omega
    have hlen := lvR_len es rs[i].1 rs[i].2 ds n
    have e1 := un_i1 (rs.length : Int) (i : Int) n (es.map avSEdge) (ds.map avSpot) (rs.map avSpot) (lvR es rs[i].1 rs[i].2 ds n) [] L (by simpa using (by omega : (lvR es rs[i].1 rs[i].2 ds n).length ≤ 1048576))
    simp only [List.nil_append, List.length_nil, Int.natCast_zero] at e1
    have ih := un_i0 n h0 h2 es ds rs he hd hr l1 l2 l3 m (i + 1) (L ++ lvI n es ds rs i) (by omega)
    have hg : rs.getD i rD = rs[i] := by simp [List.getD_eq_getElem?_getD, hi]
    have hlv : lvI n es ds rs i = lvR es rs[i].1 rs[i].2 ds n := by unfold lvI; rw [hg]
    rw [hlv] at ih
    refine li_Unused_0 _ _ _ _ _ _ _ ?_
    simp only [lt_true hi, cond_true, rs_i n h0 h2 es ds rs he hd hr l1 l2 i hi, Option.bind_some, List.length_map, e1, wrap_i (show i < 9000000000000000000 by omega), ih, alF, hlv]
theorem un_i2 (L : List Int) (nd : Nat) (hn : nd ≤ 120) : ∀ (m i : Nat) (o : List Int), i + m = nd → o.length ≤ i →
    Li_Unused_2 (nd : Int) (i : Int) (dI (ones L)) (o.map iv) = some ((unF (fun d => hasI L (d : Int)) i m o).map iv)
  | 0, i, o, h, ho => by
    refine li_Unused_2 _ _ _ _ ?_
    obtain rfl : i = nd := by omega
    simp only [lt_self, cond_false, unF]
  | m + 1, i, o, h, ho => by
    have hi : i < nd := by omega
    have c1 : capB (o.length + 1) 8 = true := capB_le (by omega)
    have ih1 := un_i2 L nd hn m (i + 1) o (by omega) (by omega)
    have ih2 := un_i2 L nd hn m (i + 1) (o ++ [(i : Int)]) (by omega) (by simp; omega)
    refine li_Unused_2 _ _ _ _ ?_
    simp only [lt_true hi, cond_true, ones_get, e_int, e_toInt, List.length_map, c1, snoc_iv', wrap_i (show i < 9000000000000000000 by omega), ih1, ih2, unF]
    cases hasI L (i : Int) <;> rfl
theorem un_impl (n : Int) (es : List SEdgeD) (ds rs : List SpotD) : Fi_Unused n (es.map avSEdge) (ds.map avSpot) (rs.map avSpot) = some ((unV n es ds rs).1.map iv, (unV n es ds rs).2) := by
  refine ui_Unused _ _ _ _ ?_
  unfold unV
  simp only [sg_impl, Option.bind_some]
  cases g : sgQ n es ds rs with
  | false => rfl
  | true =>
    obtain ⟨⟨h0, h2⟩, he, hd, hr, l1, l2, l3⟩ := sgQ_of g
    have e := un_i0 n h0 h2 es ds rs he hd hr l1 l2 l3 rs.length 0 [] (by omega)
    simp only [Int.natCast_zero, show dI (ones ([] : List Int)) = [] from rfl] at e
    have e2 := un_i2 (alF n es ds rs 0 rs.length []) ds.length l2 ds.length 0 [] (by omega) (by simp)
    simp only [Int.natCast_zero, List.map_nil] at e2
    have q : (fun d : Nat => hasI (alF n es ds rs 0 rs.length []) (d : Int)) = fun d : Nat => usQ n es ds rs (d : Int) := by
      funext d; rw [alF_has]; rfl
    rw [q] at e2
    simp only [Bool.not_true, cond_false, cond_true, List.length_map, e, Option.bind_some, e2]
theorem unV_len (n : Int) (es : List SEdgeD) (ds rs : List SpotD) : (unV n es ds rs).1.length ≤ 120 := by
  unfold unV
  cases g : sgQ n es ds rs with
  | false => simp
  | true =>
    obtain ⟨_, _, _, _, _, l2, _⟩ := sgQ_of g
    have := unF_len (fun d => usQ n es ds rs (d : Int)) ds.length 0 []
    simp only [List.length_nil, Nat.zero_add] at this
    simp only [cond_true]; omega
theorem lawUn (n : Int) (es : List SEdgeD) (ds rs : List SpotD) (h1 : es.length ≤ maxLen) (h2 : ds.length ≤ maxLen) (h3 : rs.length ≤ maxLen) (w1 : ∀ x ∈ es, wfSEdge x) (w2 : ∀ x ∈ ds, wfSpot x) (w3 : ∀ x ∈ rs, wfSpot x) :
    Fl_FnExactUnused n (es.map avSEdge) (ds.map avSpot) (rs.map avSpot) = some true := by
  refine ul_FnExactUnused _ _ _ _ ?_
  simp only [tzSg n es ds rs h1 h2 h3 w1 w2 w3, Option.bind_some]
  by_cases g : szR 1048576 (szSgN es ds rs) < 0
  · simp only [g, decide_true, cond_true]
  have hs := szR_nn g
  unfold szSgN at hs
  have l1 : es.length ≤ 1048576 := by omega
  have l2 : ds.length ≤ 1048576 := by omega
  have l3 : rs.length ≤ 1048576 := by omega
  have lv := unV_len n es ds rs
  have us := un_spec n es ds rs
  have ui := un_impl n es ds rs
  generalize unV n es ds rs = V at lv us ui
  obtain ⟨V, c⟩ := V
  simp only at lv us ui
  have e24 := s24 V (by omega)
  have em := mkSg n 1 es ds rs l1 l2 l3 (by omega) (by omega)
  have q1 : ¬ ((1 : Int) + 3 * es.length + 2 * ds.length + 2 * rs.length < 0) := by omega
  have q2 : ¬ ((1 : Int) + V.length < 0) := by omega
  simp only [g, decide_false, cond_false, toSg n es ds rs l1 l2 l3, asRoL_map asRo_SEdge, asRoL_map asRo_Spot, asRoL_map asRo_iv, us, ui, noRoL_map noRo_iv, Bool.and_self, cond_true, e24, Option.bind_some, Bool.not_true, decide_true, eqSg n es ds rs l1 l2 l3, em, q1,
    s26 V 1 (by omega) (by omega) (by omega), asRo_marks, s28 V.length 1 (by omega) (by omega) (by omega), q2]
theorem lawUnused : ∀ xs, FitsL ctx [ty_laws_Sg] xs → ∃ k, vcall ctx k n_l_FnExactUnused xs [] = some ([.bool true], []) := by
  intro xs h
  obtain ⟨x, r, rfl, h1, h⟩ := h.cons'
  obtain rfl := h.nil'
  obtain ⟨n, es, ds, rs, rfl, ⟨l1, l2, l3⟩, q1, q2, q3⟩ := fitSg h1
  exact law_of (S := sgl_FnExactUnused) (a := (n, es.map avSEdge, ds.map avSpot, rs.map avSpot)) (lawUn n es ds rs l1 l2 l3 q1 q2 q3) rfl rfl
end Go.Proofs.Ytfniojpjlachoaa
