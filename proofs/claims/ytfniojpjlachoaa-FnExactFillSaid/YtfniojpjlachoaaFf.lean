/- Fill: what both sides give; the law; no condition. -/
import Derived.Test.YtfniojpjlachoaaFb
import Derived.Test.YtfniojpjlachoaaMp
import Derived.Test.YtfniojpjlachoaaLo
namespace Go.Proofs.Ytfniojpjlachoaa
open Go.VK AVal
open Tr
def cVar : ByteArray := ByteArray.mk #[86, 97, 114]
def vrQ (t : Tr) : Bool := t.leaf && decide (t.name = cVar)
theorem vr_s (n t : ByteArray) (l : Bool) (ks : List Tr) : Fs_l11Var n t l (avs ks) = some (l && decide (n = cVar)) := by
  refine us_l11Var n t l (avs ks) ?_
  cases l <;> rfl
theorem vr_i (n t : ByteArray) (l : Bool) (ks : List Tr) : Fi_isVar n t l (avs ks) = some (l && decide (n = cVar)) := by
  refine ui_isVar n t l (avs ks) ?_
  cases l <;> rfl
/-! The variables' names are right -/
mutual
def vok : Tr → Bool | .mk n t l ks => bif l && decide (n = cVar) then nmOK t else voks ks
def voks : List Tr → Bool | [] => true | k :: ks => vok k && voks ks
end
mutual
theorem vok_i : ∀ t : Tr, sz t ≤ 1048576 → Fi_varsOK t.name t.text t.leaf (avs t.kids) = some (vok t)
  | .mk n t l ks, hs => by
    simp only [sz] at hs
    refine ui_varsOK n t l (avs ks) ?_
    simp only [vr_i, Option.bind_some, vok]
    cases l && decide (n = cVar) with
    | true => simp only [cond_true, s87, Option.bind_some]
    | false =>
      have e := vok_0 [] ks (by simp; omega) (by omega)
      simp only [List.nil_append, List.length_nil, Int.natCast_zero] at e
      simp only [cond_false, avs_len, e]
      cases voks ks <;> rfl
theorem vok_0 : ∀ (pre ks : List Tr), (pre ++ ks).length ≤ 1048576 → szs ks ≤ 1048576 → Li_varsOK_0 (avs (pre ++ ks)) ((pre ++ ks).length : Int) (pre.length : Int) = some (bif voks ks then .inr () else .inl false)
  | pre, [], hl, hs => by
    refine li_varsOK_0 _ _ _ ?_
    simp [voks]
  | pre, k :: ks, hl, hs => by
    simp only [szs] at hs
    have hm := mid_lt pre ks k
    have e := vok_0 (pre ++ [k]) ks (by simpa using hl) (by omega)
    simp only [List.append_assoc, List.cons_append, List.nil_append, el1] at e
    refine li_varsOK_0 _ _ _ ?_
    simp only [avs_len, dlt_true hm, d0_true, Bool.and_self, cond_true, Int.toNat_natCast, avs_get, av_shape, av_0, av_1, av_2, av_3, vok_i k (by omega), Option.bind_some, wrap_succ hm (by omega), e, voks]
    cases vok k <;> rfl
end
theorem pat_i (p : Tr) (h : sz p ≤ 1048576) : Fi_patternTree p.name p.text p.leaf (avs p.kids) = some (tokB2 p && vok p) := by
  refine ui_patternTree _ _ _ _ ?_
  simp only [s32 p h, Option.bind_some, vok_i p h]
  cases tokB2 p <;> rfl
/-! The reference's list of variables -/
def addV (acc : List ByteArray) (t : ByteArray) : List ByteArray := bif acc.any (fun x => decide (x = t)) then acc else acc ++ [t]
mutual
def vL : Tr → List ByteArray → List ByteArray × Bool | .mk n t l ks, acc => bif l && decide (n = cVar) then (addV acc t, nmOK t) else vLs ks acc true
def vLs : List Tr → List ByteArray → Bool → List ByteArray × Bool | [], acc, ok => (acc, ok) | k :: ks, acc, ok => bif ok then vLs ks (vL k acc).1 (vL k acc).2 else (acc, ok)
end
theorem vLs_no (ks : List Tr) (acc : List ByteArray) : vLs ks acc false = (acc, false) := by cases ks <;> rfl
mutual
theorem vL_ok : ∀ (t : Tr) (acc : List ByteArray), (vL t acc).2 = vok t
  | .mk n t l ks, acc => by
    simp only [vL, vok]
    cases l && decide (n = cVar) with
    | true => rfl
    | false => simp only [cond_false, vLs_ok ks acc]
theorem vLs_ok : ∀ (ks : List Tr) (acc : List ByteArray), (vLs ks acc true).2 = voks ks
  | [], acc => rfl
  | k :: ks, acc => by
    simp only [vLs, cond_true, voks, ← vL_ok k acc]
    cases (vL k acc).2 with
    | true => rw [vLs_ok ks, Bool.true_and]
    | false => rw [vLs_no, Bool.false_and]
end
mutual
def vns : Tr → List ByteArray | .mk n t l ks => bif l && decide (n = cVar) then [t] else vnss ks
def vnss : List Tr → List ByteArray | [] => [] | k :: ks => vns k ++ vnss ks
end
theorem addV_mem (acc : List ByteArray) (t x : ByteArray) : x ∈ addV acc t ↔ x ∈ acc ∨ x = t := by
  unfold addV
  cases g : acc.any (fun x => decide (x = t)) with
  | false => simp
  | true =>
    rw [List.any_eq_true] at g
    obtain ⟨y, hy, e⟩ := g
    have := of_decide_eq_true e
    subst this
    simp only [cond_true]
    exact ⟨.inl, fun h => h.elim id fun h => by rw [h]; exact hy⟩
mutual
theorem vL_mem : ∀ (t : Tr) (acc : List ByteArray), vok t = true → ∀ x, x ∈ (vL t acc).1 ↔ x ∈ acc ∨ x ∈ vns t
  | .mk n t l ks, acc, h, x => by
    simp only [vL, vok, vns] at h ⊢
    cases g : l && decide (n = cVar) with
    | true => simp only [cond_true, addV_mem, List.mem_singleton]
    | false =>
      rw [g] at h
      simp only [cond_false] at h ⊢
      exact vLs_mem ks acc h x
theorem vLs_mem : ∀ (ks : List Tr) (acc : List ByteArray), voks ks = true → ∀ x, x ∈ (vLs ks acc true).1 ↔ x ∈ acc ∨ x ∈ vnss ks
  | [], acc, h, x => by simp [vLs, vnss]
  | k :: ks, acc, h, x => by
    simp only [voks, Bool.and_eq_true] at h
    simp only [vLs, cond_true, vL_ok k acc, h.1, vLs_mem ks _ h.2 x, vL_mem k acc h.1 x, vnss, List.mem_append, or_assoc]
end
theorem at_0 (n : ByteArray) : ∀ (ks pre : List ByteArray), (pre ++ ks).length ≤ 1048577 → ∃ r, Ls_l03At_0 ((pre ++ ks).map AVal.str) n (pre.length : Int) = some r ∧ ((ks.any (fun x => decide (x = n)) = true ∧ ∃ j : Nat, r = .inl (j : Int)) ∨ (ks.any (fun x => decide (x = n)) = false ∧ r = .inr ()))
  | [], pre, hl => ⟨.inr (), ls_l03At_0 _ _ _ (by simp), .inr ⟨rfl, rfl⟩⟩
  | k :: ks, pre, hl => by
    have hm := mid_len pre ks k
    obtain ⟨r, e, h⟩ := at_0 n ks (pre ++ [k]) (by simpa using hl)
    simp only [List.append_assoc, List.cons_append, List.nil_append, el1] at e
    have p1 : ∀ s : ByteArray, CT.shape .str (.str s) = true := fun _ => rfl
    have p2 : ∀ s : ByteArray, (AVal.str s).toStr = s := fun _ => rfl
    by_cases g : k = n
    · refine ⟨.inl (pre.length : Int), ls_l03At_0 _ _ _ ?_, .inl ⟨by simp [g], _, rfl⟩⟩
      have gd : decide (k = n) = true := decide_eq_true g
      simp only [List.length_map, Int.toNat_natCast, map_mid, dlt_true hm, d0_true, Bool.and_self, cond_true, p1, p2, gd]
    · refine ⟨r, ls_l03At_0 _ _ _ ?_, by simpa [g] using h⟩
      simp only [List.length_map, Int.toNat_natCast, map_mid, dlt_true hm, d0_true, Bool.and_self, cond_true, cond_false, p1, p2, g, decide_false, wrap_succ hm (by omega), e]
theorem asRoL_str (ls : List ByteArray) : asRoL (ls.map AVal.str) = ls.map AVal.str := by
  induction ls with
  | nil => simp [asRoL]
  | cons x xs ih => simp only [List.map_cons, asRoL, asRo, ih]
theorem at_s (ls : List ByteArray) (n : ByteArray) (hl : ls.length ≤ 1048577) : ∃ r, Fs_l03At (ls.map AVal.str) n = some r ∧ decide (r < 0) = !ls.any (fun x => decide (x = n)) := by
  obtain ⟨r, e, h⟩ := at_0 n ls [] (by simpa using hl)
  simp only [List.nil_append, List.length_nil, Int.natCast_zero] at e
  rcases h with ⟨q, j, rfl⟩ | ⟨q, rfl⟩
  · refine ⟨(j : Int), us_l03At _ _ (by rw [e]; rfl), ?_⟩
    have : ¬ ((j : Int) < 0) := by omega
    rw [q, decide_eq_false this]; rfl
  · exact ⟨-1, us_l03At _ _ (by rw [e]; rfl), by rw [q]; rfl⟩
theorem addV_len (acc : List ByteArray) (t : ByteArray) : (addV acc t).length ≤ acc.length + 1 := by unfold addV; cases acc.any (fun x => decide (x = t)) <;> simp
mutual
theorem vL_len : ∀ (t : Tr) (acc : List ByteArray), (vL t acc).1.length ≤ acc.length + cnt t
  | .mk n t l ks, acc => by
    simp only [vL, cnt]
    cases l && decide (n = cVar) with
    | true => have := addV_len acc t; simp only [cond_true]; omega
    | false => have := vLs_len ks acc true; simp only [cond_false]; omega
theorem vLs_len : ∀ (ks : List Tr) (acc : List ByteArray) (ok : Bool), (vLs ks acc ok).1.length ≤ acc.length + cnts ks
  | [], acc, ok => by simp [vLs, cnts]
  | k :: ks, acc, ok => by
    simp only [vLs, cnts]
    cases ok with
    | true => have a := vLs_len ks (vL k acc).1 (vL k acc).2; have b := vL_len k acc; simp only [cond_true]; omega
    | false => simp only [cond_false]; omega
end
mutual
theorem vs_s : ∀ (t : Tr) (acc : List ByteArray), sz t ≤ 1048576 → acc.length + cnt t ≤ 1048577 → Fs_l11Vars t.name t.text t.leaf (avs t.kids) (acc.map AVal.str) = some ((vL t acc).1.map AVal.str, (vL t acc).2)
  | .mk n t l ks, acc, hs, hc => by
    simp only [sz] at hs
    simp only [cnt] at hc
    refine us_l11Vars n t l (avs ks) _ ?_
    simp only [vr_s, Option.bind_some, vL]
    cases l && decide (n = cVar) with
    | true =>
      obtain ⟨r, e, h⟩ := at_s acc t (by omega)
      have cb : capB (acc.length + 1) 16 = true := capB_le (by omega)
      simp only [cond_true, asRoL_str, e, Option.bind_some, h, List.length_map, cb, s108, addV]
      cases acc.any (fun x => decide (x = t)) with
      | true => rfl
      | false => simp only [Bool.not_false, cond_true, cond_false, List.map_append, List.map_cons, List.map_nil]
    | false =>
      have e := vs_0 n t l [] ks acc true (by simp; omega) (by omega) (by omega)
      simp only [List.nil_append, List.length_nil, Int.natCast_zero] at e
      simp only [cond_false, e, Option.bind_some]
theorem vs_0 : ∀ (n t : ByteArray) (l : Bool) (pre ks : List Tr) (acc : List ByteArray) (ok : Bool), (pre ++ ks).length ≤ 1048576 → szs ks ≤ 1048576 → acc.length + cnts ks ≤ 1048577 → Ls_l11Vars_0 ok (pre.length : Int) (acc.map AVal.str) n t l (avs (pre ++ ks)) = some ((vLs ks acc ok).2, (vLs ks acc ok).1.map AVal.str)
  | n, t, l, pre, [], acc, ok, hl, hs, hc => by
    refine ls_l11Vars_0 _ _ _ _ _ _ _ ?_
    simp [vLs, avs_len]
  | n, t, l, pre, k :: ks, acc, ok, hl, hs, hc => by
    simp only [szs] at hs
    simp only [cnts] at hc
    have hm := mid_lt pre ks k
    refine ls_l11Vars_0 _ _ _ _ _ _ _ ?_
    cases ok with
    | false => simp only [avs_len, dlt_true hm, cond_true, cond_false, vLs]
    | true =>
      have hb := vL_len k acc
      have e := vs_0 n t l (pre ++ [k]) ks (vL k acc).1 (vL k acc).2 (by simpa using hl) (by omega) (by omega)
      simp only [List.append_assoc, List.cons_append, List.nil_append, el1] at e
      simp only [avs_len, dlt_true hm, d0_true, Bool.and_self, cond_true, Int.toNat_natCast, avs_get, av_shape, av_0, av_1, av_2, av_3, vs_s k acc (by omega) (by omega), Option.bind_some, wrap_succ hm (by omega), e, vLs]
end
theorem pat_s (p : Tr) (h : sz p ≤ 1048576) : Fs_l11Pattern p.name p.text p.leaf (avs p.kids) = some (tokB2 p && vok p) := by
  refine us_l11Pattern _ _ _ _ ?_
  have hc := cnt_sz p
  have e := vs_s p [] h (by simp; omega)
  simp only [List.map_nil] at e
  simp only [s30 p h, Option.bind_some, e, vL_ok]
  cases tokB2 p <;> rfl
/-! What a name stands for -/
def lkB : List Bd → ByteArray → Option Tr | [], _ => none | b :: r, n => bif decide (b.1 = n) then some b.2 else lkB r n
theorem fd_0 (n : ByteArray) : ∀ (ks pre : List Bd), (pre ++ ks).length ≤ 1048576 → ∃ r, Ls_l11Find_0 ((pre ++ ks).map avB) n (pre.length : Int) = some r ∧ ((∃ q x s, ks = q ++ x :: s ∧ (∀ y ∈ q, y.1 ≠ n) ∧ x.1 = n ∧ r = .inl ((pre.length + q.length : Nat) : Int)) ∨ ((∀ y ∈ ks, y.1 ≠ n) ∧ r = .inr ()))
  | [], pre, hl => ⟨.inr (), ls_l11Find_0 _ _ _ (by simp), .inr ⟨by simp, rfl⟩⟩
  | k :: ks, pre, hl => by
    have hm := mid_len pre ks k
    obtain ⟨r, e, h⟩ := fd_0 n ks (pre ++ [k]) (by simpa using hl)
    simp only [List.append_assoc, List.cons_append, List.nil_append, el1] at e
    by_cases g : k.1 = n
    · refine ⟨.inl (pre.length : Int), ls_l11Find_0 _ _ _ ?_, .inl ⟨[], k, ks, rfl, by simp, g, rfl⟩⟩
      simp only [List.length_map, Int.toNat_natCast, map_mid, dlt_true hm, d0_true, Bool.and_self, cond_true, b_p0, b_0, g, decide_true]
    · refine ⟨r, ls_l11Find_0 _ _ _ ?_, ?_⟩
      · simp only [List.length_map, Int.toNat_natCast, map_mid, dlt_true hm, d0_true, Bool.and_self, cond_true, cond_false, b_p0, b_0, g, decide_false, wrap_succ hm (by omega), e]
      · rcases h with ⟨q, x, s, rfl, h1, h2, rfl⟩ | ⟨h1, rfl⟩
        · refine .inl ⟨k :: q, x, s, rfl, fun y hy => ?_, h2, ?_⟩
          · rcases List.mem_cons.1 hy with rfl | hy
            · exact g
            · exact h1 y hy
          · rw [el1]; simp only [List.length_cons]; congr 2; omega
        · refine .inr ⟨fun y hy => ?_, rfl⟩
          rcases List.mem_cons.1 hy with rfl | hy
          · exact g
          · exact h1 y hy
theorem fd_s (bs : List Bd) (n : ByteArray) (hl : bs.length ≤ 1048576) : ∃ r : Int, Fs_l11Find (bs.map avB) n = some r ∧ ((∃ q x s, bs = q ++ x :: s ∧ (∀ y ∈ q, y.1 ≠ n) ∧ x.1 = n ∧ r = (q.length : Int)) ∨ ((∀ y ∈ bs, y.1 ≠ n) ∧ r = -1)) := by
  obtain ⟨r, e, h⟩ := fd_0 n bs [] (by simpa using hl)
  simp only [List.nil_append, List.length_nil, Int.natCast_zero, Nat.zero_add] at e h
  rcases h with ⟨q, x, s, rfl, h1, h2, rfl⟩ | ⟨h1, rfl⟩
  · exact ⟨_, us_l11Find _ _ (by rw [e]; rfl), .inl ⟨q, x, s, rfl, h1, h2, rfl⟩⟩
  · exact ⟨-1, us_l11Find _ _ (by rw [e]; rfl), .inr ⟨h1, rfl⟩⟩
theorem lkB_hit {n : ByteArray} : ∀ {q : List Bd} {x : Bd} {s : List Bd}, (∀ y ∈ q, y.1 ≠ n) → x.1 = n → lkB (q ++ x :: s) n = some x.2
  | [], x, s, _, h => by simp [lkB, h]
  | y :: q, x, s, h1, h => by
    have := h1 y (by simp)
    simp only [List.cons_append, lkB, this, decide_false, cond_false]
    exact lkB_hit (fun z hz => h1 z (by simp [hz])) h
theorem lkB_no {n : ByteArray} : ∀ {q : List Bd}, (∀ y ∈ q, y.1 ≠ n) → lkB q n = none
  | [], _ => rfl
  | y :: q, h1 => by
    have := h1 y (by simp)
    simp only [lkB, this, decide_false, cond_false]
    exact lkB_no fun z hz => h1 z (by simp [hz])
def optT (o : Option Tr) : ByteArray × ByteArray × Bool × List AVal × Bool := match o with | some u => (u.name, u.text, u.leaf, avs u.kids, true) | none => (ByteArray.empty, ByteArray.empty, false, [], false)
theorem bd_0 (n : ByteArray) : ∀ (ks pre : List Bd), (pre ++ ks).length ≤ 1048576 → Li_bound_0 n ((pre ++ ks).map avB) ((pre ++ ks).length : Int) (pre.length : Int) ByteArray.empty ByteArray.empty false [] = some (match lkB ks n with | some u => .inl (true, u.name, u.text, u.leaf, avs u.kids) | none => .inr (ByteArray.empty, ByteArray.empty, false, []))
  | [], pre, hl => by
    refine li_bound_0 _ _ _ _ _ _ _ _ ?_
    simp [lkB]
  | k :: ks, pre, hl => by
    have hm := mid_len pre ks k
    have e := bd_0 n ks (pre ++ [k]) (by simpa using hl)
    simp only [List.append_assoc, List.cons_append, List.nil_append, el1] at e
    refine li_bound_0 _ _ _ _ _ _ _ _ ?_
    simp only [List.length_map, Int.toNat_natCast, map_mid, dlt_true hm, d0_true, Bool.and_self, cond_true, b_sh, b_0, b_1, b_2, b_3, b_4, wrap_succ hm (by omega), e, lkB]
    by_cases g : k.1 = n <;> simp [g]
theorem bd_i (bs : List Bd) (n : ByteArray) (hl : bs.length ≤ 1048576) : Fi_bound (bs.map avB) n = some (optT (lkB bs n)) := by
  refine ui_bound _ _ ?_
  have e := bd_0 n bs [] (by simpa using hl)
  simp only [List.nil_append, List.length_nil, Int.natCast_zero] at e
  simp only [List.length_map, e, optT]
  cases lkB bs n <;> rfl
end Go.Proofs.Ytfniojpjlachoaa
