/- Fill: what both sides give; the law; no condition. -/
import Derived.Test.YtfniojpjlachoaaFf
namespace Go.Proofs.Ytfniojpjlachoaa
open Go.VK AVal
open Tr
mutual
def fillO (bs : List Bd) : Tr → Option Tr | .mk n t l ks => bif l && decide (n = cVar) then lkB bs t else (match fillOs bs ks with | some us => some (.mk n t l us) | none => none)
def fillOs (bs : List Bd) : List Tr → Option (List Tr) | [] => some [] | k :: ks => (match fillO bs k, fillOs bs ks with | some u, some us => some (u :: us) | _, _ => none)
end
theorem ek (k : Tr) : AVal.agg [.str k.name, .str k.text, .bool k.leaf, .ro false 4 (avs k.kids)] = av k := by cases k; rfl
theorem avs_snoc (a : List Tr) (u : Tr) : avs (a ++ [u]) = avs a ++ [av u] := by simp only [avs_map, List.map_append, List.map_cons, List.map_nil]
mutual
theorem fl_i (bs : List Bd) (hb : bs.length ≤ 1048576) : ∀ t : Tr, sz t ≤ 1048576 → Fi_fill t.name t.text t.leaf (avs t.kids) (bs.map avB) = some (optT (fillO bs t))
  | .mk n t l ks, hs => by
    simp only [sz] at hs
    refine ui_fill n t l (avs ks) _ ?_
    simp only [vr_i, Option.bind_some, fillO]
    cases l && decide (n = cVar) with
    | true => simp only [cond_true, bd_i bs t hb, Option.bind_some]
    | false =>
      have e := fl_0 bs hb n t l [] ks [] (by simp; omega) (by omega) (by simp)
      simp only [List.nil_append, List.length_nil, Int.natCast_zero, avs] at e
      simp only [cond_false, avs_len, e]
      cases fillOs bs ks with
      | none => simp only [Option.bind_some, Sum.elim_inl, optT, asRoL]
      | some us => simp only [Option.bind_some, Sum.elim_inr, optT, asRoL_avs, Tr.name, Tr.text, Tr.leaf, Tr.kids]
theorem fl_0 (bs : List Bd) (hb : bs.length ≤ 1048576) : ∀ (n t : ByteArray) (l : Bool) (pre ks acc : List Tr), (pre ++ ks).length ≤ 1048576 → szs ks ≤ 1048576 → acc.length = pre.length →
    Li_fill_0 (bs.map avB) (avs (pre ++ ks)) ((pre ++ ks).length : Int) (pre.length : Int) ByteArray.empty ByteArray.empty false [] n t l (avs acc) = some (match fillOs bs ks with | some us => .inr (ByteArray.empty, ByteArray.empty, false, [], n, t, l, avs (acc ++ us)) | none => .inl (false, ByteArray.empty, ByteArray.empty, false, []))
  | n, t, l, pre, [], acc, hl, hs, ha => by
    refine li_fill_0 _ _ _ _ _ _ _ _ _ _ _ _ ?_
    simp [fillOs]
  | n, t, l, pre, k :: ks, acc, hl, hs, ha => by
    simp only [szs] at hs
    have hm := mid_lt pre ks k
    refine li_fill_0 _ _ _ _ _ _ _ _ _ _ _ _ ?_
    simp only [avs_len, dlt_true hm, d0_true, Bool.and_self, cond_true, Int.toNat_natCast, avs_get, av_shape, av_0, av_1, av_2, av_3, fl_i bs hb k (by omega), Option.bind_some, wrap_succ hm (by omega), fillOs]
    cases fillO bs k with
    | none => rfl
    | some u =>
      have e := fl_0 bs hb n t l (pre ++ [k]) ks (acc ++ [u]) (by simpa using hl) (by omega) (by simp [ha])
      simp only [List.append_assoc, List.cons_append, List.nil_append, el1, avs_snoc] at e
      have cb : capB (acc.length + 1) 64 = true := capB_le (by omega)
      simp only [optT, Bool.not_true, cond_false, cb, cond_true, ek, bnd_eq, e]
      cases fillOs bs ks <;> rfl
end
mutual
theorem fl_s (bs : List Bd) (hb : bs.length ≤ 1048576) : ∀ t : Tr, sz t ≤ 1048576 → ∀ u, fillO bs t = some u → Fs_l11Fill t.name t.text t.leaf (avs t.kids) (bs.map avB) = some (u.name, u.text, u.leaf, avs u.kids)
  | .mk n t l ks, hs, u, hu => by
    simp only [sz] at hs
    simp only [fillO] at hu
    refine us_l11Fill n t l (avs ks) _ ?_
    simp only [vr_s, Option.bind_some]
    cases g : l && decide (n = cVar) with
    | true =>
      rw [g] at hu
      simp only [cond_true] at hu
      obtain ⟨r, e, h⟩ := fd_s bs t hb
      rcases h with ⟨q, x, s, hx, h1, h2, rfl⟩ | ⟨h1, rfl⟩
      · rw [hx, lkB_hit h1 h2] at hu
        obtain rfl := Option.some.inj hu
        have hm := mid_len q s x
        have el : (bs.map avB).length = (q ++ x :: s).length := by rw [List.length_map, hx]
        have eg : (bs.map avB).getD q.length .und = avB x := by rw [hx]; exact map_mid ..
        simp only [cond_true, Tr.text, e, Option.bind_some, el, dlt_true hm, d0_true, Bool.and_self, Int.toNat_natCast, eg, b_sh1, b_1, b_2, b_3, b_4]
      · rw [lkB_no h1] at hu; cases hu
    | false =>
      rw [g] at hu
      simp only [cond_false] at hu
      cases hf : fillOs bs ks with
      | none => rw [hf] at hu; cases hu
      | some us =>
        rw [hf] at hu
        obtain rfl := Option.some.inj hu
        have e := fls_0 bs hb n t l [] ks [] us (by simp; omega) (by omega) (by simp) hf
        simp only [List.nil_append, List.length_nil, Int.natCast_zero, avs] at e
        simp only [cond_false, e, Option.bind_some, asRoL_avs, Tr.name, Tr.text, Tr.leaf, Tr.kids]
theorem fls_0 (bs : List Bd) (hb : bs.length ≤ 1048576) : ∀ (n t : ByteArray) (l : Bool) (pre ks acc us : List Tr), (pre ++ ks).length ≤ 1048576 → szs ks ≤ 1048576 → acc.length = pre.length → fillOs bs ks = some us →
    Ls_l11Fill_0 (bs.map avB) (pre.length : Int) n t l (avs (pre ++ ks)) ByteArray.empty ByteArray.empty false [] (avs acc) = some (n, t, l, avs (pre ++ ks), ByteArray.empty, ByteArray.empty, false, [], avs (acc ++ us))
  | n, t, l, pre, [], acc, us, hl, hs, ha, hf => by
    simp only [fillOs, Option.some.injEq] at hf
    subst hf
    refine ls_l11Fill_0 _ _ _ _ _ _ _ _ _ _ _ ?_
    simp [avs_len]
  | n, t, l, pre, k :: ks, acc, us, hl, hs, ha, hf => by
    simp only [szs] at hs
    have hm := mid_lt pre ks k
    simp only [fillOs] at hf
    cases hk : fillO bs k with
    | none => rw [hk] at hf; cases hf
    | some u =>
      cases hks : fillOs bs ks with
      | none => rw [hk, hks] at hf; cases hf
      | some us' =>
        rw [hk, hks] at hf
        obtain rfl := Option.some.inj hf
        have e := fls_0 bs hb n t l (pre ++ [k]) ks (acc ++ [u]) us' (by simpa using hl) (by omega) (by simp [ha]) hks
        simp only [List.append_assoc, List.cons_append, List.nil_append, el1, avs_snoc] at e
        have cb : capB (acc.length + 1) 64 = true := capB_le (by simp at hl; omega)
        refine ls_l11Fill_0 _ _ _ _ _ _ _ _ _ _ _ ?_
        simp only [avs_len (pre ++ k :: ks), avs_len acc, dlt_true hm, d0_true, Bool.and_self, cond_true, Int.toNat_natCast, avs_get, av_shape, av_0, av_1, av_2, av_3, fl_s bs hb k (by omega) u hk, Option.bind_some, wrap_succ hm (by omega), cb, ek, bnd_eq, e]
end
/-! It is filled if and only if all its variables stand for something -/
mutual
theorem fillO_iff (bs : List Bd) : ∀ t : Tr, (fillO bs t).isSome = true ↔ ∀ x ∈ vns t, (lkB bs x).isSome = true
  | .mk n t l ks => by
    simp only [fillO, vns]
    cases l && decide (n = cVar) with
    | true => simp
    | false =>
      have := fillOs_iff bs ks
      simp only [cond_false]
      rw [← this]
      cases fillOs bs ks <;> simp
theorem fillOs_iff (bs : List Bd) : ∀ ks : List Tr, (fillOs bs ks).isSome = true ↔ ∀ x ∈ vnss ks, (lkB bs x).isSome = true
  | [] => by simp [fillOs, vnss]
  | k :: ks => by
    have h1 := fillO_iff bs k
    have h2 := fillOs_iff bs ks
    simp only [fillOs, vnss, List.mem_append]
    constructor
    · intro h x hx
      cases hk : fillO bs k with
      | none => rw [hk] at h; simp at h
      | some u =>
        cases hks : fillOs bs ks with
        | none => rw [hk, hks] at h; simp at h
        | some us =>
          rw [hk] at h1; rw [hks] at h2
          exact hx.elim (h1.1 rfl x) (h2.1 rfl x)
    · intro h
      have a := h1.2 fun x hx => h x (.inl hx)
      have b := h2.2 fun x hx => h x (.inr hx)
      cases hk : fillO bs k with
      | none => rw [hk] at a; cases a
      | some u =>
        cases hks : fillOs bs ks with
        | none => rw [hks] at b; cases b
        | some us => rfl
end
/-! Its size -/
mutual
theorem fillO_sz (bs : List Bd) (h : ∀ b ∈ bs, sz b.2 ≤ 1048576) : ∀ (t u : Tr), fillO bs t = some u → sz u ≤ sz t + 1048576 * cnt t
  | .mk n t l ks, u, hu => by
    simp only [fillO] at hu
    simp only [sz, cnt]
    cases g : l && decide (n = cVar) with
    | true =>
      rw [g] at hu
      simp only [cond_true] at hu
      have : sz u ≤ 1048576 := by
        clear g
        induction bs with
        | nil => cases hu
        | cons b r ih =>
          simp only [lkB] at hu
          by_cases q : b.1 = t
          · simp only [q, decide_true, cond_true, Option.some.injEq] at hu
            subst hu; exact h b (by simp)
          · simp only [q, decide_false, cond_false] at hu
            exact ih (fun b hb => h b (by simp [hb])) hu
      omega
    | false =>
      rw [g] at hu
      simp only [cond_false] at hu
      cases hf : fillOs bs ks with
      | none => rw [hf] at hu; cases hu
      | some us =>
        rw [hf] at hu
        obtain rfl := Option.some.inj hu
        have := fillOs_sz bs h ks us hf
        simp only [sz]
        omega
theorem fillOs_sz (bs : List Bd) (h : ∀ b ∈ bs, sz b.2 ≤ 1048576) : ∀ (ks us : List Tr), fillOs bs ks = some us → us.length = ks.length ∧ szs us ≤ szs ks + 1048576 * cnts ks
  | [], us, hu => by
    simp only [fillOs, Option.some.injEq] at hu
    subst hu
    simp [szs]
  | k :: ks, us, hu => by
    simp only [fillOs] at hu
    cases hk : fillO bs k with
    | none => rw [hk] at hu; cases hu
    | some u =>
      cases hks : fillOs bs ks with
      | none => rw [hk, hks] at hu; cases hu
      | some us' =>
        rw [hk, hks] at hu
        obtain rfl := Option.some.inj hu
        have a := fillO_sz bs h k u hk
        have b := fillOs_sz bs h ks us' hks
        simp only [szs, cnts, List.length_cons]
        omega
end
mutual
theorem rgt_sz : ∀ t : Tr, rgt t = true → sz t + 1 ≤ 225 * cnt t
  | .mk n t l ks, h => by
    simp only [rgt, Bool.and_eq_true] at h
    have hn : n.size ≤ 24 := by
      have := h.1
      simp only [nmOK, Bool.and_eq_true, decide_eq_true_eq] at this
      exact this.2.1
    have ht : t.size ≤ 200 := by
      have := h.2.1
      cases l with
      | true => simp only [cond_true, Bool.and_eq_true, decide_eq_true_eq] at this; exact this.2
      | false =>
        simp only [cond_false, decide_eq_true_eq] at this
        rw [this]
        exact Nat.zero_le _
    have := rgts_sz ks h.2.2
    simp only [sz, cnt]
    omega
theorem rgts_sz : ∀ ks : List Tr, rgts ks = true → ks.length + szs ks ≤ 225 * cnts ks
  | [], _ => by simp [szs]
  | k :: ks, h => by
    simp only [rgts, Bool.and_eq_true] at h
    have a := rgt_sz k h.1
    have b := rgts_sz ks h.2
    simp only [szs, cnts, List.length_cons]
    omega
end
theorem tok_sz {t : Tr} (h : tokB2 t = true) : sz t ≤ 1048576 := by
  simp only [tokB2, Bool.and_eq_true, decide_eq_true_eq] at h
  have := rgt_sz t h.2.2
  omega
end Go.Proofs.Ytfniojpjlachoaa
