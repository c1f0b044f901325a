/- What Resolve computes: the reference's levels and the program's search; where the graph is right. -/
import Derived.Test.YtfniojpjlachoaaSk
import Derived.Test.YtfniojpjlachoaaRp
namespace Go.Proofs.Ytfniojpjlachoaa
open Go.VK AVal
def edG (n : Int) (es : List SEdgeD) : Prop := ∀ e ∈ es, (0 ≤ e.1 ∧ e.1 < n) ∧ (0 ≤ e.2.1 ∧ e.2.1 < n) ∧ (e.2.2 = 1 ∨ e.2.2 = 2)
def spG (n : Int) (ds : List SpotD) : Prop := ∀ d ∈ ds, 0 ≤ d.1 ∧ d.1 < n
theorem edG_of {n : Int} {es : List SEdgeD} (h : es.all (edgeQ n) = true) : edG n es := fun e he => by
  have := List.all_eq_true.1 h e he
  simp only [edgeQ, inQ, Bool.and_eq_true, decide_eq_true_eq] at this
  omega
theorem spG_of {n : Int} {ds : List SpotD} (h : ds.all (spotQ n) = true) : spG n ds := fun d hd => by
  have := List.all_eq_true.1 h d hd
  simp only [spotQ, inQ, Bool.and_eq_true, decide_eq_true_eq] at this
  omega
/-! The reference -/
theorem bv_sh (b : Bool) : CT.shape .bool (.bool b) = true := rfl
theorem bv_to (b : Bool) : (AVal.bool b).toBool = b := rfl
theorem bv_ag (b : Bool) : aggQ (.bool b) = false := rfl
theorem beh_0 (N : Nat) (f : Int → Bool) (kd n : Int) (D R : List AVal) : ∀ (es pre : List SEdgeD) (g : Int → Bool), edG N es → (pre ++ es).length ≤ 1048576 →
    Ls_l12Behind_0 (bv N f) kd (pre.length : Int) n ((pre ++ es).map avSEdge) D R (bv N g) = some (bv N fun t => g t || beh es f kd t)
  | [], pre, g, he, hl => by
    refine ls_l12Behind_0 _ _ _ _ _ _ _ _ ?_
    simp [beh]
  | e :: es, pre, g, he, hl => by
    have hm := mid_len pre es e
    obtain ⟨⟨f0, f1⟩, ⟨t0, t1⟩, _⟩ := he e (by simp)
    have ih := fun g' => beh_0 N f kd n D R es (pre ++ [e]) g' (fun x hx => he x (by simp [hx])) (by simpa using hl)
    simp only [List.append_assoc, List.cons_append, List.nil_append, show ∀ x : SEdgeD, (pre ++ [x]).length = pre.length + 1 from fun x => by simp] at ih
    have hb : e.2.1.toNat < N := by omega
    refine ls_l12Behind_0 _ _ _ _ _ _ _ _ ?_
    by_cases g1 : e.2.2 = kd
    · by_cases g2 : f e.1 = true
      · simp only [Int.toNat_natCast, List.length_map, dlt_true hm, d0_true, Bool.and_self, cond_true, map_mid, p0_SEdge, p1_SEdge, p2_SEdge, c0_SEdge, c1_SEdge, c2_SEdge, g1, g2, decide_true, f0, f1, t0, t1, bv_len, bv_get f f0 f1, bv_get g t0 t1, bv_sh, bv_to, bv_ag, blt_true hb, Bool.not_false, wrap_succ hm (by omega), bv_set g t0, ih, beh, List.any_cons, Bool.true_and, Bool.or_assoc]
      · simp only [Int.toNat_natCast, List.length_map, dlt_true hm, d0_true, Bool.and_self, cond_true, cond_false, map_mid, p0_SEdge, p1_SEdge, p2_SEdge, c0_SEdge, c1_SEdge, c2_SEdge, g1, Bool.eq_false_iff.2 g2, decide_true, f0, f1, bv_len, bv_get f f0 f1, bv_sh, bv_to, wrap_succ hm (by omega), ih, beh, List.any_cons, Bool.false_and, Bool.and_false, Bool.false_or]
    · simp only [Int.toNat_natCast, List.length_map, dlt_true hm, d0_true, Bool.and_self, cond_true, cond_false, map_mid, p2_SEdge, c2_SEdge, g1, decide_false, wrap_succ hm (by omega), ih, beh, List.any_cons, Bool.false_and, Bool.false_or]
theorem behS (n : Int) (hn : 0 ≤ n) (hn2 : n ≤ 60) (es : List SEdgeD) (D R : List AVal) (f : Int → Bool) (kd : Int) (he : edG n es) (hl : es.length ≤ 120) :
    Fs_l12Behind n (es.map avSEdge) D R (bv n.toNat f) kd = some (bv n.toNat (beh es f kd)) := by
  refine us_l12Behind _ _ _ _ _ _ ?_
  have e := beh_0 n.toNat f kd n D R es [] (fun _ => false) (by rw [Int.toNat_of_nonneg hn]; exact he) (by simp; omega)
  simp only [List.nil_append, List.length_nil, Int.natCast_zero, Bool.false_or] at e
  have hc : capB n.toNat 1 = true := capB_le (by omega)
  simp only [hn, Int.le_refl, hc, decide_true, Bool.and_self, cond_true, bv_rep, e, Option.bind_some, asRo_bv]
theorem in_0 (N : Nat) (f : Int → Bool) (nm : ByteArray) (n : Int) (E R : List AVal) : ∀ (ds pre : List SpotD) (out : List Int), spG N ds → (pre ++ ds).length ≤ 1048576 → out.length ≤ pre.length →
    Ls_l12In_0 (bv N f) nm (pre.length : Int) n E ((pre ++ ds).map avSpot) R (out.map iv) = some ((out ++ idx (fun d : SpotD => f d.1 && decide (d.2 = nm)) pre.length ds).map iv)
  | [], pre, out, he, hl, ho => by
    refine ls_l12In_0 _ _ _ _ _ _ _ _ ?_
    simp [idx]
  | d :: ds, pre, out, he, hl, ho => by
    have hm := mid_len pre ds d
    obtain ⟨f0, f1⟩ := he d (by simp)
    have ih := fun out' => in_0 N f nm n E R ds (pre ++ [d]) out' (fun x hx => he x (by simp [hx])) (by simpa using hl)
    simp only [List.append_assoc, List.cons_append, List.nil_append, show ∀ x : SpotD, (pre ++ [x]).length = pre.length + 1 from fun x => by simp] at ih
    have hc : capB (out.length + 1) 8 = true := capB_le (by simp at hl; omega)
    have hv : ([.int .i64 (pre.length : Int)] : List AVal) = [(pre.length : Int)].map iv := rfl
    refine ls_l12In_0 _ _ _ _ _ _ _ _ ?_
    by_cases g1 : f d.1 = true
    · by_cases g2 : d.2 = nm
      · have i2 := ih (out ++ [(pre.length : Int)]) (by simp; omega)
        simp only [Int.toNat_natCast, List.length_map, dlt_true hm, d0_true, Bool.and_self, cond_true, map_mid, p0_Spot, p1_Spot, c0_Spot, c1_Spot, f0, f1, bv_len, bv_get f f0 f1, bv_sh, bv_to, g1, g2, decide_true, hc, hv, ← List.map_append, wrap_succ hm (by omega), i2, idx, if_true, List.append_assoc, List.cons_append, List.nil_append]
      · simp only [Int.toNat_natCast, List.length_map, dlt_true hm, d0_true, Bool.and_self, cond_true, cond_false, map_mid, p0_Spot, p1_Spot, c0_Spot, c1_Spot, f0, f1, bv_len, bv_get f f0 f1, bv_sh, bv_to, g1, g2, decide_true, decide_false, wrap_succ hm (by omega), ih out (by omega), idx, Bool.and_false, Bool.false_eq_true, if_false]
    · simp only [Int.toNat_natCast, List.length_map, dlt_true hm, d0_true, Bool.and_self, cond_true, cond_false, map_mid, p0_Spot, c0_Spot, f0, f1, bv_len, bv_get f f0 f1, bv_sh, bv_to, Bool.eq_false_iff.2 g1, decide_true, wrap_succ hm (by omega), ih out (by omega), idx, Bool.false_and, Bool.false_eq_true, if_false]
theorem inS (n : Int) (hn : 0 ≤ n) (E : List AVal) (ds : List SpotD) (R : List AVal) (f : Int → Bool) (nm : ByteArray) (he : spG n ds) (hl : ds.length ≤ 120) :
    Fs_l12In n E (ds.map avSpot) R (bv n.toNat f) nm = some ((idx (fun d : SpotD => f d.1 && decide (d.2 = nm)) 0 ds).map iv) := by
  refine us_l12In _ _ _ _ _ _ ?_
  have e := in_0 n.toNat f nm n E R ds [] [] (by rw [Int.toNat_of_nonneg hn]; exact he) (by simp; omega) (by simp)
  simp only [List.nil_append, List.length_nil, Int.natCast_zero, List.map_nil] at e
  simp only [e, Option.bind_some, asRoL_map asRo_iv]
/-- what the loop over the steps answers from step k on -/
def lvS (es : List Edg) (a : Int) (nm : ByteArray) (ds : List Spt) : Nat → Nat → List Int ⊕ Unit
  | _, 0 => .inr ()
  | k, m + 1 => if seen es a nm ds (2 * k) ≠ [] then .inl (seen es a nm ds (2 * k)) else if seen es a nm ds (2 * k + 1) ≠ [] then .inl (seen es a nm ds (2 * k + 1)) else lvS es a nm ds (k + 1) m
def avS : List Int ⊕ Unit → List AVal ⊕ Unit
  | .inl x => .inl (x.map iv)
  | .inr () => .inr ()
theorem lvS_none {es : List Edg} {a : Int} {nm : ByteArray} {ds : List Spt} (h : ∀ c, seen es a nm ds c = []) : ∀ m k, lvS es a nm ds k m = .inr ()
  | 0, _ => rfl
  | m + 1, k => by simp [lvS, h, lvS_none h m (k + 1)]
theorem lvS_some {es : List Edg} {a : Int} {nm : ByteArray} {ds : List Spt} {c : Nat} (h : ∀ c', c' < c → seen es a nm ds c' = []) (hc : seen es a nm ds c ≠ []) :
    ∀ m k, 2 * k ≤ c → c < 2 * (k + m) → lvS es a nm ds k m = .inl (seen es a nm ds c)
  | 0, k, h1, h2 => by omega
  | m + 1, k, h1, h2 => by
    by_cases g : c = 2 * k
    · subst g
      simp [lvS, hc]
    · have e0 := h (2 * k) (by omega)
      by_cases g' : c = 2 * k + 1
      · subst g'
        simp [lvS, hc, e0]
      · have e1 := h (2 * k + 1) (by omega)
        simp only [lvS, e0, e1, ne_eq, not_true_eq_false, if_false]
        exact lvS_some h hc m (k + 1) (by omega) (by omega)
theorem seen_even (es : List Edg) (a : Int) (nm : ByteArray) (ds : List Spt) (k : Nat) : seen es a nm ds (2 * k) = idx (fun d => lv es a k d.1 && decide (d.2 = nm)) 0 ds := by
  unfold seen; rw [rc_even]
theorem seen_odd (es : List Edg) (a : Int) (nm : ByteArray) (ds : List Spt) (k : Nat) : seen es a nm ds (2 * k + 1) = idx (fun d => beh es (lv es a k) 2 d.1 && decide (d.2 = nm)) 0 ds := by
  unfold seen; rw [rc_odd]
theorem len_of {x : List Int} : (x = [] ∧ decide (((x.map iv).length : Int) = 0) = true ∧ decide (0 < ((x.map iv).length : Int)) = false) ∨ (x ≠ [] ∧ decide (((x.map iv).length : Int) = 0) = false ∧ decide (0 < ((x.map iv).length : Int)) = true) := by
  cases x with
  | nil => left; simp
  | cons y r => right; refine ⟨by simp, ?_, ?_⟩ <;> simp <;> omega
theorem lv_s1 (n : Int) (h0 : 0 ≤ n) (h2 : n ≤ 60) (es : List SEdgeD) (ds : List SpotD) (R : List AVal) (he : edG n es) (hd : spG n ds) (l1 : es.length ≤ 120) (l2 : ds.length ≤ 120) (a : Int) (nm : ByteArray) :
    ∀ m k : Nat, (k : Int) + m = n + 1 → Ls_l12Resolve_0s1 (bv n.toNat (lv es a k)) (k : Int) n (es.map avSEdge) (ds.map avSpot) R a nm = some (avS (lvS es a nm ds k m))
  | 0, k, hk => by
    have : ¬ (k : Int) ≤ n := by omega
    refine ls_l12Resolve_0s1 _ _ _ _ _ _ _ _ ?_
    simp [this, lvS, avS]
  | m + 1, k, hk => by
    have hk' : (k : Int) ≤ n := by omega
    have ew : IntKind.wrap .i64 ((k : Int) + 1) = ((k + 1 : Nat) : Int) := by rw [wrap64 (by omega) (by omega)]; omega
    have ih := lv_s1 n h0 h2 es ds R he hd l1 l2 a nm m (k + 1) (by omega)
    have eb := behS n h0 h2 es (ds.map avSpot) R (lv es a k) 1 he l1
    rw [show beh es (lv es a k) 1 = lv es a (k + 1) from rfl] at eb
    have s0 := seen_even es a nm ds k
    have s1 := seen_odd es a nm ds k
    refine ls_l12Resolve_0s1 _ _ _ _ _ _ _ _ ?_
    rcases len_of (x := seen es a nm ds (2 * k)) with ⟨q1, q2, q3⟩ | ⟨q1, q2, q3⟩
    · rcases len_of (x := seen es a nm ds (2 * k + 1)) with ⟨r1, r2, r3⟩ | ⟨r1, r2, r3⟩
      · simp only [hk', decide_true, cond_true, inS n h0 _ ds R _ nm hd l2, ← s0, ← s1, q2, q3, r3, cond_false, Option.bind_some, behS n h0 h2 es (ds.map avSpot) R _ 2 he l1, eb, ew, ih, lvS, q1, r1, ne_eq, not_true_eq_false, if_false]
        rfl
      · simp only [hk', decide_true, cond_true, inS n h0 _ ds R _ nm hd l2, ← s0, ← s1, q2, q3, r3, cond_false, Option.bind_some, behS n h0 h2 es (ds.map avSpot) R _ 2 he l1, lvS, q1, r1, ne_eq, not_true_eq_false, not_false_eq_true, if_false, if_true, avS]
        rfl
    · simp only [hk', decide_true, cond_true, inS n h0 _ ds R _ nm hd l2, ← s0, q2, q3, cond_false, Option.bind_some, lvS, q1, ne_eq, not_false_eq_true, if_true, avS]
theorem lv_s0 (n : Int) (h0 : 0 ≤ n) (h2 : n ≤ 60) (es : List SEdgeD) (ds : List SpotD) (R : List AVal) (he : edG n es) (hd : spG n ds) (l1 : es.length ≤ 120) (l2 : ds.length ≤ 120) (a : Int) (nm : ByteArray) :
    Ls_l12Resolve_0 0 n (es.map avSEdge) (ds.map avSpot) R a nm (bv n.toNat (lv es a 0)) = some (avS (lvS es a nm ds 0 (n.toNat + 1))) := by
  have ew : IntKind.wrap .i64 ((0 : Int) + 1) = ((1 : Nat) : Int) := by decide
  have ih := lv_s1 n h0 h2 es ds R he hd l1 l2 a nm n.toNat 1 (by omega)
  have eb := behS n h0 h2 es (ds.map avSpot) R (lv es a 0) 1 he l1
  rw [show beh es (lv es a 0) 1 = lv es a 1 from rfl] at eb
  have s0 := seen_even es a nm ds 0
  have s1 := seen_odd es a nm ds 0
  refine ls_l12Resolve_0 _ _ _ _ _ _ _ _ ?_
  rcases len_of (x := seen es a nm ds (2 * 0)) with ⟨q1, q2, q3⟩ | ⟨q1, q2, q3⟩
  · rcases len_of (x := seen es a nm ds (2 * 0 + 1)) with ⟨r1, r2, r3⟩ | ⟨r1, r2, r3⟩
    · simp only [h0, asRo_bv, decide_true, cond_true, inS n h0 _ ds R _ nm hd l2, ← s0, ← s1, q2, q3, r3, cond_false, Option.bind_some, behS n h0 h2 es (ds.map avSpot) R _ 2 he l1, eb, ew, ih, lvS, q1, r1, ne_eq, not_true_eq_false, if_false, Nat.zero_add]
      rfl
    · simp only [h0, asRo_bv, decide_true, cond_true, inS n h0 _ ds R _ nm hd l2, ← s0, ← s1, q2, q3, r3, cond_false, Option.bind_some, behS n h0 h2 es (ds.map avSpot) R _ 2 he l1, lvS, q1, r1, ne_eq, not_true_eq_false, not_false_eq_true, if_false, if_true, avS]
      rfl
  · simp only [h0, asRo_bv, decide_true, cond_true, inS n h0 _ ds R _ nm hd l2, ← s0, q2, q3, cond_false, Option.bind_some, lvS, q1, ne_eq, not_false_eq_true, if_true, avS]
/-- what the reference finds -/
def lvR (es : List Edg) (a : Int) (nm : ByteArray) (ds : List Spt) (n : Int) : List Int := (lvS es a nm ds 0 (n.toNat + 1)).elim id fun _ => []
theorem lv_spec (n : Int) (h0 : 0 ≤ n) (h2 : n ≤ 60) (es : List SEdgeD) (ds : List SpotD) (R : List AVal) (he : edG n es) (hd : spG n ds) (l1 : es.length ≤ 120) (l2 : ds.length ≤ 120) (a : Int) (ha : 0 ≤ a ∧ a < n) (nm : ByteArray) :
    Fs_l12Resolve n (es.map avSEdge) (ds.map avSpot) R a nm = some ((lvR es a nm ds n).map iv) := by
  refine us_l12Resolve _ _ _ _ _ _ ?_
  have hc : capB n.toNat 1 = true := capB_le (by omega)
  have hb : a.toNat < n.toNat := by omega
  have hz : n.toNat = n := Int.toNat_of_nonneg h0
  have a1 : a < ((n.toNat : Nat) : Int) := by omega
  have e0 : (bv n.toNat fun x => false || decide (a = x)) = bv n.toNat (lv es a 0) := rfl
  simp only [h0, Int.le_refl, hc, decide_true, Bool.and_self, cond_true, bv_rep, bv_len, ha.1, a1, blt_true hb, bv_get _ ha.1 a1, bv_ag, Bool.not_false, bv_set _ ha.1, e0, lv_s0 n h0 h2 es ds R he hd l1 l2 a nm, Option.bind_some]
  unfold lvR
  cases lvS es a nm ds 0 (n.toNat + 1) with
  | inl x => rfl
  | inr u => rfl
/-! The program -/
theorem iv_sh (x : Int) : CT.shape (.int .i64) (iv x) = true := rfl
theorem iv_to (x : Int) : (iv x).toInt = x := rfl
theorem iv_ag (x : Int) : aggQ (iv x) = false := rfl
theorem see_i {N : Nat} (o : Int → Int) {t : Int} (c : Int) (t0 : 0 ≤ t) (t1 : t < N) : Fi_Sg_steps_1 t c (vec N o) = some (vec N (see o t c)) := by
  refine ui_Sg_steps_1 _ _ _ ?_
  have hb : t.toNat < N := by omega
  have hs : (vec N o).set t.toNat (.int .i64 c) = vec N (upd o t c) := vec_set o c t0
  unfold see
  by_cases g1 : o t < 0
  · simp only [t0, t1, vec_len, decide_true, Bool.and_self, cond_true, blt_true hb, vec_get o t0 t1, iv_sh, iv_to, iv_ag, g1, Bool.not_false, hs, true_or, if_true]
  · by_cases g2 : c < o t
    · simp only [t0, t1, vec_len, decide_true, decide_false, Bool.and_self, cond_true, cond_false, blt_true hb, vec_get o t0 t1, iv_sh, iv_to, iv_ag, g1, g2, Bool.not_false, hs, or_true, if_true]
    · simp only [t0, t1, vec_len, decide_true, decide_false, Bool.and_self, cond_true, cond_false, blt_true hb, vec_get o t0 t1, iv_sh, iv_to, g1, g2, or_self, if_false]
theorem st_2 (n : Int) (es : List SEdgeD) (a : Int) (N i : Nat) (s : Int) (hN : N ≤ 60) (hes : edG N es) (D R : List AVal) : ∀ (es' pre : List SEdgeD) (st : St), pre ++ es' = es → es.length ≤ 120 → Inn es a N i s pre st →
    ∃ st', Li_Sg_steps_2 (i : Int) s (es.map avSEdge) (es.length : Int) (pre.length : Int) n (es.map avSEdge) D R (vec N st.o) (vec N st.u) (st.todo.map iv) = some ((i : Int), n, es.map avSEdge, D, R, vec N st'.o, vec N st'.u, st'.todo.map iv) ∧ Inn es a N i s es st'
  | [], pre, st, hp, hl, h => by
    rw [List.append_nil] at hp
    subst hp
    refine ⟨st, li_Sg_steps_2 _ _ _ _ _ _ _ _ _ _ _ _ ?_, h⟩
    simp
  | e :: es', pre, st, hp, hl, h => by
    have hm : pre.length < es.length := by rw [← hp]; exact mid_len pre es' e
    have he : e ∈ es := by rw [← hp]; simp
    have hg : (es.map avSEdge).getD pre.length .und = avSEdge e := by rw [← hp]; exact map_mid ..
    obtain ⟨⟨f0, f1⟩, ⟨t0, t1⟩, hk⟩ := hes e he
    obtain ⟨st', h1, h2⟩ := st_2 n es a N i s hN hes D R es' (pre ++ [e]) (estep s st e) (by rw [← hp]; simp) hl (inn_step h he ⟨t0, t1⟩ hk)
    refine ⟨st', li_Sg_steps_2 _ _ _ _ _ _ _ _ _ _ _ _ ?_, h2⟩
    simp only [show ∀ x : SEdgeD, (pre ++ [x]).length = pre.length + 1 from fun x => by simp] at h1
    have hb := h.bd
    obtain ⟨s0, s1⟩ := h.B s h.mem
    have sb : s.toNat < N := by omega
    have tb : e.2.1.toNat < N := by omega
    have w1 : IntKind.wrap .i64 (st.u s + 1) = st.u s + 1 := wrap64 (by omega) (by omega)
    have w2 : IntKind.wrap .i64 (st.u s + 2) = st.u s + 2 := wrap64 (by omega) (by omega)
    have hc : capB (st.todo.length + 1) 8 = true := capB_le (by have := h.toInv.len; omega)
    unfold estep at h1
    by_cases g1 : e.1 = s
    · by_cases g2 : e.2.2 = 2
      · simp only [g1, g2, if_true] at h1
        simp only [Int.toNat_natCast, List.length_map, dlt_true hm, d0_true, Bool.and_self, cond_true, cond_false, hg, sh_SEdge, c0_SEdge, c1_SEdge, c2_SEdge, g1, g2, decide_true, Bool.not_true, s0, s1, vec_len, blt_true sb, vec_get st.u s0 s1, iv_sh, iv_to, w1, see_i st.o _ t0 t1, Option.bind_some, wrap_succ hm (by omega), h1]
      · by_cases g4 : st.u e.2.1 < 0
        · simp only [g1, g2, g4, if_true, if_false] at h1
          have hs : (vec N st.u).set e.2.1.toNat (.int .i64 (st.u s + 2)) = vec N (upd st.u e.2.1 (st.u s + 2)) := vec_set st.u _ t0
          have hv : st.todo.map iv ++ ([.int .i64 e.2.1] : List AVal) = (st.todo ++ [e.2.1]).map iv := by rw [List.map_append]; rfl
          simp only [Int.toNat_natCast, List.length_map, dlt_true hm, d0_true, Bool.and_self, cond_true, cond_false, hg, sh_SEdge, c0_SEdge, c1_SEdge, c2_SEdge, g1, g2, g4, decide_true, decide_false, Bool.not_true, Bool.not_false, s0, s1, t0, t1, vec_len, blt_true sb, blt_true tb, vec_get st.u s0 s1, vec_get st.u t0 t1, iv_sh, iv_to, iv_ag, w2, bnd_eq, hc, hs, hv, wrap_succ hm (by omega), h1]
        · simp only [g1, g2, g4, if_true, if_false] at h1
          simp only [Int.toNat_natCast, List.length_map, dlt_true hm, d0_true, Bool.and_self, cond_true, cond_false, hg, sh_SEdge, c0_SEdge, c1_SEdge, c2_SEdge, g1, g2, g4, decide_true, decide_false, Bool.not_true, t0, t1, vec_len, blt_true tb, vec_get st.u t0 t1, iv_sh, iv_to, wrap_succ hm (by omega), h1]
    · simp only [g1, if_false] at h1
      simp only [Int.toNat_natCast, List.length_map, dlt_true hm, d0_true, Bool.and_self, cond_true, hg, sh_SEdge, c0_SEdge, c1_SEdge, c2_SEdge, g1, decide_false, Bool.not_false, wrap_succ hm (by omega), h1]
theorem st_1 (n : Int) (es : List SEdgeD) (a : Int) (N : Nat) (hN : N ≤ 60) (hes : edG N es) (hl : es.length ≤ 120) (D R : List AVal) : ∀ (m i : Nat) (st : St), i + m = N + 1 → Inv es a N i st → i ≤ st.todo.length →
    ∃ o, Li_Sg_steps_1 (i : Int) n (es.map avSEdge) D R (vec N st.o) (vec N st.u) (st.todo.map iv) = some (vec N o) ∧ Far es a N o
  | 0, i, st, hm, h, hi => by have := h.len; omega
  | m + 1, i, st, hm, h, hi => by
    by_cases g : i < st.todo.length
    · have hs : st.todo[i]? = some st.todo[i] := List.getElem?_eq_getElem g
      obtain ⟨s0, s1⟩ := h.B _ (List.getElem_mem g)
      have h1 := inn_first h hs
      obtain ⟨st', e2, h2⟩ := st_2 n es a N i st.todo[i] hN hes D R es [] _ rfl hl h1
      have hl2 := h2.lt
      obtain ⟨o, e3, h3⟩ := st_1 n es a N hN hes hl D R m (i + 1) st' (by omega) (inn_last h2) (by omega)
      refine ⟨o, li_Sg_steps_1 _ _ _ _ _ _ _ _ ?_, h3⟩
      simp only [List.length_nil, Int.natCast_zero] at e2
      have sb : (st.todo[i]).toNat < N := by omega
      have hg : (st.todo.map iv).getD i .und = iv st.todo[i] := getD_map iv g
      have hN' := h.len
      simp only [Int.toNat_natCast, List.length_map, dlt_true g, d0_true, Bool.and_self, cond_true, blt_true g, hg, iv_sh, iv_to, s0, s1, vec_len, decide_true, blt_true sb, vec_get st.u s0 s1, see_i st.o _ s0 s1, Option.bind_some, e2, wrap_succ g (by omega), e3]
    · refine ⟨st.o, li_Sg_steps_1 _ _ _ _ _ _ _ _ ?_, inv_far h (by omega)⟩
      have : ¬ (i : Int) < (st.todo.length : Int) := by omega
      simp only [List.length_map, this, decide_false, cond_false]
theorem st_0 (a n : Int) (E D R : List AVal) (N : Nat) (hN : N ≤ 60) : ∀ (m i : Nat) (u o : Int → Int), i + m = N → (∀ t, 0 ≤ t → t < i → u t = -1 ∧ o t = -1) →
    Li_Sg_steps_0 a (N : Int) (i : Int) n E D R (vec N o) (vec N u) = some (a, n, E, D, R, vec N fun _ => -1, vec N fun _ => -1)
  | 0, i, u, o, hm, h => by
    obtain rfl : i = N := by omega
    have e : ∀ f : Int → Int, (∀ t, 0 ≤ t → t < i → f t = -1) → vec i f = vec i fun _ => -1 := fun f hf => by
      refine List.ext_getElem (by simp [vec]) fun j h1 h2 => ?_
      simp only [vec_len] at h1
      simp only [vec, List.getElem_map, List.getElem_range, hf j (by omega) (by omega)]
    refine li_Sg_steps_0 _ _ _ _ _ _ _ _ _ ?_
    rw [e u fun t h1 h2 => (h t h1 h2).1, e o fun t h1 h2 => (h t h1 h2).2]
    simp
  | m + 1, i, u, o, hm, h => by
    have hi : i < N := by omega
    have h0 : (0 : Int) ≤ (i : Int) := by omega
    have h1 : (i : Int) < (N : Int) := by omega
    have ih := st_0 a n E D R N hN m (i + 1) (upd u i (-1)) (upd o i (-1)) (by omega) (fun t q1 q2 => by
      unfold upd
      by_cases g : t = (i : Int)
      · simp [g]
      · simp only [g, if_false]
        exact h t q1 (by omega))
    have v1 := vec_set (N := N) u (-1) h0
    have v2 := vec_set (N := N) o (-1) h0
    have g1 := vec_get (N := N) u h0 h1
    have g2 := vec_get (N := N) o h0 h1
    simp only [Int.toNat_natCast, iv] at v1 v2 g1 g2
    have ag : ∀ x, aggQ (.int .i64 x) = false := fun _ => rfl
    refine li_Sg_steps_0 _ _ _ _ _ _ _ _ _ ?_
    simp only [Int.toNat_natCast, vec_len, h0, h1, decide_true, Bool.and_self, cond_true, blt_true hi, g1, g2, ag, Bool.not_false, v1, v2, wrap_succ hi (by omega), ih]
theorem steps_i (n : Int) (h0 : 0 ≤ n) (h2 : n ≤ 60) (es : List SEdgeD) (D R : List AVal) (he : edG n es) (l1 : es.length ≤ 120) (a : Int) (ha : 0 ≤ a ∧ a < n) : ∃ o, Fi_Sg_steps n (es.map avSEdge) D R a = some (vec n.toNat o) ∧ Far es a n.toNat o := by
  have hz : ((n.toNat : Nat) : Int) = n := Int.toNat_of_nonneg h0
  have a1 : a < ((n.toNat : Nat) : Int) := by omega
  obtain ⟨o, e1, h1⟩ := st_1 n es a n.toNat (by omega) (by rw [hz]; exact he) l1 D R (n.toNat + 1) 0 _ (by omega) (inv_first es ha.1 a1) (by simp)
  refine ⟨o, ui_Sg_steps _ _ _ _ _ ?_, h1⟩
  have e0 := st_0 a n (es.map avSEdge) D R n.toNat (by omega) n.toNat 0 (fun _ => 0) (fun _ => 0) (by omega) (fun t q1 q2 => by omega)
  have hc : capB n.toNat 8 = true := capB_le (by omega)
  have hb : a.toNat < n.toNat := by omega
  have hr : List.replicate n.toNat (.int .i64 0 : AVal) = vec n.toNat fun _ => 0 := vec_rep n.toNat 0
  have hs : (vec n.toNat fun _ => -1).set a.toNat (.int .i64 0) = vec n.toNat (upd (fun _ => -1) a 0) := vec_set _ 0 ha.1
  have hv : ([.int .i64 a] : List AVal) = [a].map iv := rfl
  simp only [Int.natCast_zero, hz] at e0 e1
  simp only [h0, Int.le_refl, hc, decide_true, Bool.and_self, cond_true, hr, vec_len, hz, e0, Option.bind_some, ha.1, ha.2, blt_true hb, vec_get _ ha.1 a1, iv_ag, Bool.not_false, hs, hv, e1, asRo_vec]
theorem rs_0 (N : Nat) (o : Int → Int) (nm : ByteArray) (sc : Int) : ∀ (ds' pre : List SpotD) (b : Int) (out : List Int), spG N (pre ++ ds') → (pre ++ ds').length ≤ 120 → out.length ≤ pre.length → Best o nm pre b out →
    ∃ b' out', Li_Sg_resolve_0 (vec N o) b ((pre ++ ds').map avSpot) ((pre ++ ds').length : Int) (pre.length : Int) sc nm (out.map iv) = some (out'.map iv) ∧ Best o nm (pre ++ ds') b' out' ∧ out'.length ≤ (pre ++ ds').length
  | [], pre, b, out, hs, hl, ho, h => by
    refine ⟨b, out, li_Sg_resolve_0 _ _ _ _ _ _ _ _ ?_, by rw [List.append_nil]; exact h, by rw [List.append_nil]; exact ho⟩
    simp
  | d :: ds', pre, b, out, hs, hl, ho, h => by
    have hm := mid_len pre ds' d
    obtain ⟨f0, f1⟩ := hs d (by simp)
    have ea : pre ++ [d] ++ ds' = pre ++ d :: ds' := by simp
    have hst := best_step h d
    have hlo : (bstep o nm pre.length b out d).2.length ≤ (pre ++ [d]).length := by
      unfold bstep; split
      · split <;> simp <;> omega
      · simp; omega
    obtain ⟨b', out', e1, h1, h2⟩ := rs_0 N o nm sc ds' (pre ++ [d]) _ _ (by rw [ea]; exact hs) (by rw [ea]; exact hl) hlo hst
    rw [ea] at e1 h1 h2
    refine ⟨b', out', li_Sg_resolve_0 _ _ _ _ _ _ _ _ ?_, h1, h2⟩
    simp only [show ∀ x : SpotD, (pre ++ [x]).length = pre.length + 1 from fun x => by simp] at e1
    have hc : capB (out.length + 1) 8 = true := capB_le (by simp at hl; omega)
    have hv1 : ([.int .i64 (pre.length : Int)] : List AVal) = [(pre.length : Int)].map iv := rfl
    have hl0 := h.lo
    unfold bstep at e1
    by_cases g1 : d.2 = nm
    · by_cases g2 : o d.1 < 0
      · have : ¬ 0 ≤ o d.1 := by omega
        simp only [this, false_and, and_false, if_false] at e1
        simp only [Int.toNat_natCast, List.length_map, dlt_true hm, d0_true, Bool.and_self, cond_true, cond_false, map_mid, sh_Spot, c0_Spot, c1_Spot, f0, f1, vec_len, vec_get o f0 f1, iv_sh, iv_to, g1, g2, decide_true, Bool.not_true, wrap_succ hm (by omega), e1]
      · have g2' : 0 ≤ o d.1 := by omega
        by_cases g3 : 0 ≤ b
        · by_cases g4 : b < o d.1
          · simp only [g1, g2', g3, g4, and_self, not_true_eq_false, and_false, if_false] at e1
            simp only [Int.toNat_natCast, List.length_map, dlt_true hm, d0_true, Bool.and_self, cond_true, cond_false, map_mid, sh_Spot, c0_Spot, c1_Spot, f0, f1, vec_len, vec_get o f0 f1, iv_sh, iv_to, g1, g2, g3, g4, decide_true, decide_false, Bool.not_true, wrap_succ hm (by omega), e1]
          · have g5 : ¬ b < 0 := by omega
            by_cases g6 : o d.1 < b
            · simp only [g1, g2', g3, g4, g5, g6, and_false, and_self, not_false_eq_true, if_true, or_true] at e1
              simp only [Int.toNat_natCast, List.length_map, dlt_true hm, d0_true, Bool.and_self, cond_true, cond_false, map_mid, sh_Spot, c0_Spot, c1_Spot, f0, f1, vec_len, vec_get o f0 f1, iv_sh, iv_to, g1, g2, g3, g4, g5, g6, decide_true, decide_false, Bool.not_true, wrap_succ hm (by omega), hv1, e1]
            · simp only [g1, g2', g3, g4, g5, g6, and_false, and_self, not_false_eq_true, if_true, or_self, if_false] at e1
              simp only [Int.toNat_natCast, List.length_map, dlt_true hm, d0_true, Bool.and_self, cond_true, cond_false, map_mid, sh_Spot, c0_Spot, c1_Spot, f0, f1, vec_len, vec_get o f0 f1, iv_sh, iv_to, g1, g2, g3, g4, g5, g6, decide_true, decide_false, Bool.not_true, hc, wrap_succ hm (by omega), hv1, ← List.map_append, e1]
        · have g5 : b < 0 := by omega
          simp only [g1, g2', g3, g5, false_and, and_self, not_false_eq_true, if_true, true_or] at e1
          simp only [Int.toNat_natCast, List.length_map, dlt_true hm, d0_true, Bool.and_self, cond_true, cond_false, map_mid, sh_Spot, c0_Spot, c1_Spot, f0, f1, vec_len, vec_get o f0 f1, iv_sh, iv_to, g1, g2, g3, g5, decide_true, decide_false, Bool.not_true, wrap_succ hm (by omega), hv1, e1]
    · simp only [g1, false_and, if_false] at e1
      simp only [Int.toNat_natCast, List.length_map, dlt_true hm, d0_true, Bool.and_self, cond_true, map_mid, sh_Spot, c0_Spot, c1_Spot, f0, f1, vec_len, vec_get o f0 f1, iv_sh, iv_to, g1, decide_true, decide_false, Bool.not_false, wrap_succ hm (by omega), e1]
/-- the program finds what the reference finds -/
theorem rs_i (n : Int) (h0 : 0 ≤ n) (h2 : n ≤ 60) (es : List SEdgeD) (ds rs : List SpotD) (he : edG n es) (hd : spG n ds) (hr : spG n rs) (l1 : es.length ≤ 120) (l2 : ds.length ≤ 120) (i : Nat) (hi : i < rs.length) :
    Fi_Sg_resolve n (es.map avSEdge) (ds.map avSpot) (rs.map avSpot) (i : Int) = some ((lvR es rs[i].1 rs[i].2 ds n).map iv) := by
  have hz : ((n.toNat : Nat) : Int) = n := Int.toNat_of_nonneg h0
  obtain ⟨o, e1, F⟩ := steps_i n h0 h2 es (ds.map avSpot) (rs.map avSpot) he l1 rs[i].1 (hr _ (List.getElem_mem hi))
  obtain ⟨b, out, e2, hb, _⟩ := rs_0 n.toNat o rs[i].2 rs[i].1 ds [] (-1) [] (by rw [hz]; exact hd) l2 (by simp) ⟨by omega, fun _ => ⟨fun d hd => (by cases hd), rfl⟩, fun h => by omega⟩
  simp only [List.nil_append] at hb
  simp only [List.nil_append, List.length_nil, Int.natCast_zero, List.map_nil] at e2
  have eo : out = lvR es rs[i].1 rs[i].2 ds n := by
    unfold lvR
    rcases best_seen F hb with ⟨q1, q2⟩ | ⟨c, q1, q2, q3, q4⟩
    · rw [lvS_none q1, q2]; rfl
    · rw [lvS_some q2 (by rw [q3]; exact q4) (n.toNat + 1) 0 (by omega) (by omega), q3]; rfl
  refine ui_Sg_resolve _ _ _ _ _ ?_
  have hg := getD_map avSpot hi
  simp only [Int.toNat_natCast, List.length_map, dlt_true hi, d0_true, Bool.and_self, cond_true, hg, sh_Spot, c0_Spot, c1_Spot, e1, Option.bind_some, e2, eo]
end Go.Proofs.Ytfniojpjlachoaa
