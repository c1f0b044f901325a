/- Marks on trees that are held; where the tree is not too large. -/
import Derived.Test.YtnbpmjfemeeecaaTn
namespace Go.Proofs.Ytnbpmjfemeeecaa
open Go.VK AVal
open Tr
theorem avs_mid (pre suf : List Tr) (k : Tr) : avs (pre ++ k :: suf) = avs pre ++ av k :: avs suf := by simp [avs_map]
theorem amid_get (pre : List Tr) (suf : List AVal) (x : AVal) : (avs pre ++ x :: suf).getD pre.length .und = x := by rw [← avs_len pre]; exact mid_get ..
theorem amid_lt (pre : List Tr) (suf : List AVal) (x : AVal) : pre.length < (avs pre ++ x :: suf).length := by rw [List.length_append, avs_len]; simp
mutual
theorem s98 : ∀ (ks : List Tr) (k : Int), ks.length + szs ks ≤ 1048576 → 0 ≤ k → k + 3 * cnts ks ≤ 10000000000 → Fl_heldTreeS (avs (mkTs k ks)) k = some (k + 3 * cnts ks)
  | ks, k, hs, h0, h1 => by
    refine ul_heldTreeS _ _ ?_
    have e := s98_0 [] ks k (by simp; omega) (by omega) h0 h1
    simp only [List.nil_append, List.length_nil, Int.natCast_zero] at e
    simp only [e, Option.bind_some, Sum.elim_inr]
theorem s98_0 : ∀ (pre ks : List Tr) (k : Int), (pre ++ ks).length ≤ 1048576 → szs ks ≤ 1048576 → 0 ≤ k → k + 3 * cnts ks ≤ 10000000000 → Ll_heldTreeS_0 (avs (pre ++ mkTs k ks)) k (pre.length : Int) = some (.inr (k + 3 * cnts ks))
  | pre, [], k, hl, hs, h0, h1 => by
    refine ll_heldTreeS_0 _ _ _ ?_
    simp [avs_len, cnts, mkTs]
  | pre, .mk n t b qs :: ks, k, hl, hs, h0, h1 => by
    have hl2 : pre.length + (ks.length + 1) ≤ 1048576 := by simpa using hl
    simp only [szs, sz] at hs
    simp only [cnts, cnt, Int.natCast_add] at h1
    have ih1 := s98 qs (k + 3) (by omega) (by omega) (by omega)
    have ih2 := s98_0 (pre ++ [.mk (mt k) (mt (k + 1)) (decide (Int.tmod (k + 2) 3 = 0)) (mkTs (k + 3) qs)]) ks (k + 3 + 3 * cnts qs) (by simpa using hl) (by omega) (by omega) (by omega)
    have el : ∀ x : Tr, (pre ++ [x]).length = pre.length + 1 := fun x => by simp
    simp only [List.append_assoc, List.cons_append, List.nil_append, el, avs_mid pre] at ih2
    have ew1 : IntKind.wrap .i64 (k + 1) = k + 1 := wrap64 (by omega) (by omega)
    have ew2 : IntKind.wrap .i64 (k + 1 + 1) = k + 2 := by rw [wrap64 (by omega) (by omega)]; omega
    have ew3 : IntKind.wrap .i64 (k + 2 + 1) = k + 3 := by rw [wrap64 (by omega) (by omega)]; omega
    have ek : mkTs k (.mk n t b qs :: ks) = .mk (mt k) (mt (k + 1)) (decide (Int.tmod (k + 2) 3 = 0)) (mkTs (k + 3) qs) :: mkTs (k + 3 + 3 * cnts qs) ks := by
      simp only [mkTs, mkT, cnt]
      rw [show k + 3 * ((1 + cnts qs : Nat) : Int) = k + 3 + 3 * (cnts qs : Int) by omega]
    have hm := fun x => amid_lt pre (avs (mkTs (k + 3 + 3 * cnts qs) ks)) x
    have a0 : ∀ x, CT.shape .str ((av x).cell 0) = true := fun x => by cases x; rfl
    have a1 : ∀ x, CT.shape .str ((av x).cell 1) = true := fun x => by cases x; rfl
    have a2 : ∀ x, CT.shape .bool ((av x).cell 2) = true := fun x => by cases x; rfl
    have a3 : ∀ x, CT.shape (.slice 4) ((av x).cell 3) = true := fun x => by cases x; rfl
    have hlen : ∀ x : AVal, (avs pre ++ x :: avs (mkTs (k + 3 + 3 * cnts qs) ks)).length ≤ 9000000000000000000 := fun x => by simp [avs_len, mkTs_len]; omega
    have q : ¬ (k + 3 + 3 * (cnts qs : Int) < 0) := by omega
    refine ll_heldTreeS_0 _ _ _ ?_
    simp only [ek, avs_mid pre, Int.toNat_natCast, dlt_true (hm _), d0_true, Bool.and_self, cond_true, cond_false, amid_get, a0, a1, a2, a3, av_0, av_1, av_2, av_3, Tr.name, Tr.text, Tr.leaf, Tr.kids, s122 k (by omega), s122 (k + 1) (by omega), Option.bind_some, decide_true, Bool.not_true, beq_self_eq_true, ew1, ew2, ew3, ih1, q, decide_false, wrap_succ (hm (av (.mk (mt k) (mt (k + 1)) (decide (Int.tmod (k + 2) 3 = 0)) (mkTs (k + 3) qs)))) (hlen _), ih2, cnts, cnt, Option.some.injEq, Sum.inr.injEq]
    omega
end
theorem s53 (t : Tr) (h : sz t ≤ 1048576) (k : Int) (h0 : 0 ≤ k) (h1 : k ≤ 1000000000) (n x : ByteArray) (l : Bool) : Fl_heldTree n x l (avs (mkTs k t.kids)) k = some (k + 3 * cnts t.kids) := by
  cases t with
  | mk n x l ks =>
    simp only [sz] at h
    have := cnts_sz ks
    have q : ¬ (k + 3 * (cnts ks : Int) < 0) := by omega
    exact ul_heldTree _ _ _ _ _ (by simp only [Tr.kids, s98 ks k (by omega) h0 (by omega), Option.bind_some, q, decide_false, cond_false])
theorem noRo_ow : ∀ ts : List Tr, noRoL (ows ts) = true := by
  have key : ∀ (n : Nat) (ts : List Tr), SizeOf.sizeOf ts ≤ n → noRoL (ows ts) = true := by
    intro n
    induction n with
    | zero => intro ts h; cases ts <;> simp at h
    | succ n ih =>
      intro ts h
      cases ts with
      | nil => simp [ows, noRoL]
      | cons t ts =>
        cases t with
        | mk a b c qs =>
          simp at h
          simp only [ows, ow, noRoL, noRo, Bool.true_and, ih qs (by omega), ih ts (by omega)]
  exact fun ts => key _ ts (Nat.le_refl _)
end Go.Proofs.Ytnbpmjfemeeecaa
