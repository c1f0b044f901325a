/- The matches of two rows of trees, found: both sides give the same row; where the trees are not too large. -/
import Derived.Test.YtnbpmjfemeeecaaMc
namespace Go.Proofs.Ytnbpmjfemeeecaa
open Go.VK AVal
open Tr
section
variable {us vs : List Tr} {n m : Nat}
theorem spec_last (hn : us.length = n) (x : Int) (t : List AVal) : Ls_l15Match_1 (avs us) (avs vs) (n : Int) x t = some (avs us, avs vs, (n : Int), t) := by
  refine ls_l15Match_1 _ _ _ _ _ ?_
  simp only [avs_len, hn, lt_self, cond_false]
  cases decide (0 ≤ x) <;> rfl
theorem mtab (hn : us.length = n) (hm : vs.length = m) (hn1 : n ≤ 1048576) (hm1 : m ≤ 1048576) (ha : szs us ≤ 1048576) (hb : szs vs ≤ 1048576) : ∀ k, k ≤ n + 1 → ∀ T E, Bd n T → (∀ r j, k ≤ r → r < n → j < m → E r j = EQ us vs r j) → ∃ T' E', Bd n T' ∧
    Ls_l15Match_0 (avs us) (avs vs) ((k : Int) - 1) (tabv n m k T) = some (avs us, avs vs, tabv n m 0 T') ∧
    Li_matched_0 (avs us) (avs vs) ((k : Int) - 1) (tabv n m k T) (eqv n m k E) = some (avs us, avs vs, tabv n m 0 T', eqv n m 0 E') ∧
    ∀ r j, r < n → j < m → E' r j = EQ us vs r j
  | 0, _, T, E, hT, hE => by
    refine ⟨T, E, hT, ls_l15Match_0 _ _ _ _ ?_, li_matched_0 _ _ _ _ _ ?_, fun r j h1 h2 => hE r j (Nat.zero_le _) h1 h2⟩ <;> rfl
  | i + 1, hk, T, E, hT, hE => by
    have hx : ((i + 1 : Nat) : Int) - 1 = (i : Int) := by omega
    have hi : i ≤ n := by omega
    have hin1 : i < n + 1 := by omega
    have wm : IntKind.wrap .i64 ((m : Int) + 1) = ((m + 1 : Nat) : Int) := wrap_i (by omega)
    have wmp := wrap_pred (j := m) (by omega)
    have wip := wrap_pred (j := i) (by omega)
    have c1 : capB (m + 1) 8 = true := capB_le (by omega)
    have c2 : capB m 1 = true := capB_le (by omega)
    have eR : AVal.own 1 (List.replicate (m + 1) (.int .i64 0)) = rowt m (fun _ => 0) := by rw [fn_rep]; rfl
    have eB : AVal.own 1 (List.replicate m (.bool false)) = rowb m (fun _ => false) := by rw [fn_rep]; rfl
    have le1 : decide (((m + 1 : Nat) : Int) ≤ ((m + 1 : Nat) : Int)) = true := by simp
    have le2 : decide ((m : Int) ≤ (m : Int)) = true := by simp
    have hTb : Bd n (up1 T i (fun _ => 0)) := fun r q hr => by
      by_cases h1 : r = i
      · subst h1; rw [up1_self]; exact ⟨by omega, by omega⟩
      · rw [up1_ne _ _ h1]; exact hT r q hr
    by_cases hlt : i < n
    · obtain ⟨T1, E1, s1, s2, s3, s4, s5⟩ := mrow hn hm hn1 hm1 ha hb hlt m (Nat.le_refl m) (up1 T i (fun _ => 0)) (up1 E i (fun _ => false)) hTb
      obtain ⟨T', E', r1, r2, r3, r4⟩ := mtab hn hm hn1 hm1 ha hb i (by omega) T1 E1 s1 (fun r j h1 h2 h3 => by
        by_cases h : r = i
        · subst h; exact s4 j h3
        · rw [s5 r j (fun q => h q.1), up1_ne _ _ h]; exact hE r j (by omega) h2 h3)
      have hne : ¬ ((i : Int) = (n : Int)) := by omega
      refine ⟨T', E', r1, ?_, ?_, r4⟩
      · rw [hx]
        refine ls_l15Match_0 _ _ _ _ ?_
        simp only [Int.toNat_natCast, d0_true, cond_true, avs_len, hm, wm, le1, c1, Bool.and_self, bnd_eq, eR, tabv_len, lt_true hin1, blt_true hin1, tabv_agg T hi, Bool.not_false, tabv_open, wmp, s2, Option.bind_some, wip, r2]
      · rw [hx]
        refine li_matched_0 _ _ _ _ _ ?_
        simp only [Int.toNat_natCast, d0_true, cond_true, cond_false, avs_len, hn, hm, wm, le1, le2, c1, c2, Bool.and_self, bnd_eq, eR, eB, tabv_len, eqv_len, lt_true hin1, lt_true hlt, blt_true hin1, blt_true hlt, tabv_agg T hi, eqv_agg E hlt, Bool.not_false, tabv_open, eqv_open, hne, decide_false, wmp, s3, Option.bind_some, wip, r3]
    · have hie : i = n := by omega
      have hdec : decide ((i : Int) = (n : Int)) = true := by simp [hie]
      have hsk : eqv n m (i + 1) E = eqv n m i E := by rw [hie]; exact eqv_skip E
      have hsl := fun (x : Int) (t : List AVal) => spec_last (vs := vs) (n := i) (hn.trans hie.symm) x t
      obtain ⟨T', E', r1, r2, r3, r4⟩ := mtab hn hm hn1 hm1 ha hb i (by omega) (up1 T i (fun _ => 0)) E hTb (fun r j h1 h2 h3 => by omega)
      refine ⟨T', E', r1, ?_, ?_, r4⟩
      · rw [hx]
        refine ls_l15Match_0 _ _ _ _ ?_
        simp only [Int.toNat_natCast, d0_true, cond_true, avs_len, hm, wm, le1, c1, Bool.and_self, bnd_eq, eR, tabv_len, lt_true hin1, blt_true hin1, tabv_agg T hi, Bool.not_false, tabv_open, wmp, hsl, Option.bind_some, wip, r2]
      · rw [hx]
        refine li_matched_0 _ _ _ _ _ ?_
        simp only [Int.toNat_natCast, d0_true, cond_true, avs_len, hn, hm, wm, le1, c1, Bool.and_self, bnd_eq, eR, tabv_len, lt_true hin1, blt_true hin1, tabv_agg T hi, Bool.not_false, tabv_open, hdec, wip, hsk, r3]
/-! The search -/
theorem stop3 (f i x k : Int) (hx : 0 ≤ x) (t out : List AVal) : Ls_l15Match_3 (avs us) (avs vs) f i x k t out = some (avs us, avs vs, f, i, x, t, out) := by
  refine ls_l15Match_3 _ _ _ _ _ _ _ _ ?_
  have : ¬ x < 0 := by omega
  simp only [this, decide_false, cond_false]
  cases decide (k < (((avs vs).length : Nat) : Int)) <;> rfl
def toI : Option Nat → Int | some x => (x : Int) | none => -1
def outQ (i : Nat) (out : List AVal) : Option Nat → List AVal | some x => out.set i (iv x) | none => out
def nxtQ (f : Nat) : Option Nat → Int | some x => ((x + 1 : Nat) : Int) | none => (f : Int)
theorem mfind (hn : us.length = n) (hm : vs.length = m) (hn1 : n ≤ 1048576) (hm1 : m ≤ 1048576) (ha : szs us ≤ 1048576) (hb : szs vs ≤ 1048576) {T : Nat → Nat → Int} {E : Nat → Nat → Bool} (hT : Bd n T) (hE : ∀ r j, r < n → j < m → E r j = EQ us vs r j) {i f : Nat} (hi : i < n) (hf : f ≤ m) : ∀ d k, k + d = m → f ≤ k → ∃ q : Option Nat, (∀ x, q = some x → k ≤ x ∧ x < m) ∧
    (∀ out, Ls_l15Match_3 (avs us) (avs vs) (f : Int) (i : Int) (-1) (k : Int) (tabv n m 0 T) out = some (avs us, avs vs, (f : Int), (i : Int), toI q, tabv n m 0 T, out)) ∧
    (∀ out y4 y5, i < out.length → aggQ (out.getD i .und) = false → Li_matched_3 (avs vs) (f : Int) (i : Int) (k : Int) y4 y5 (tabv n m 0 T) (eqv n m 0 E) out = some (avs vs, nxtQ f q, y4, y5, tabv n m 0 T, eqv n m 0 E, outQ i out q))
  | 0, k, hk, hfk => by
    have hkm : k = m := by omega
    subst hkm
    refine ⟨none, by simp, fun out => ls_l15Match_3 _ _ _ _ _ _ _ _ ?_, fun out y4 y5 h1 h2 => li_matched_3 _ _ _ _ _ _ _ _ _ ?_⟩
    · simp only [avs_len, hm, lt_self, cond_false]; rfl
    · simp only [avs_len, hm, lt_self, cond_false]; rfl
  | d + 1, k, hk, hfk => by
    have hkm : k < m := by omega
    have hi' : i ≤ n := by omega
    have hi1 : i + 1 ≤ n := by omega
    have hin : i < us.length := by omega
    have hjn : k < vs.length := by omega
    obtain ⟨b5, b6⟩ := hT (i + 1) (k + 1) hi1
    have hse : sz (nth us i) ≤ 1048576 := Nat.le_trans (sz_mem (nth_mem hin)) ha
    have hsf : sz (nth vs k) ≤ 1048576 := Nat.le_trans (sz_mem (nth_mem hjn)) hb
    have w1 : IntKind.wrap .i64 ((i : Int) + 1) = ((i + 1 : Nat) : Int) := wrap_i (by omega)
    have w2 : IntKind.wrap .i64 ((k : Int) + 1) = ((k + 1 : Nat) : Int) := wrap_i (by omega)
    have w3 : IntKind.wrap .i64 (T (i + 1) (k + 1) + 1) = T (i + 1) (k + 1) + 1 := wrap64 (by omega) (by omega)
    have w3' : IntKind.wrap .i64 (1 + T (i + 1) (k + 1)) = T (i + 1) (k + 1) + 1 := by rw [wrap64 (by omega) (by omega)]; omega
    have l1 : i < n + 1 := by omega
    have l2 : i + 1 < n + 1 := by omega
    have l3 : f < m + 1 := by omega
    have l4 : k + 1 < m + 1 := by omega
    have hk1 : k + 1 ≤ m := by omega
    have shb : ∀ x : Bool, CT.shape .bool (.bool x) = true := fun _ => rfl
    have tob : ∀ x : Bool, (AVal.bool x).toBool = x := fun _ => rfl
    have m1 : decide ((-1 : Int) < 0) = true := rfl
    have hEk : E i k = sameT (nth us i) (nth vs k) := hE i k hi hkm
    by_cases g : sameT (nth us i) (nth vs k) = true ∧ T (i + 1) (k + 1) + 1 = T i f
    · obtain ⟨g1, g2⟩ := g
      have hd : decide (T (i + 1) (k + 1) + 1 = T i f) = true := by simp [g2]
      refine ⟨some k, fun x hx => by simp at hx; omega, fun out => ls_l15Match_3 _ _ _ _ _ _ _ _ ?_, fun out y4 y5 h1 h2 => li_matched_3 _ _ _ _ _ _ _ _ _ ?_⟩
      · simp only [Int.toNat_natCast, w1, w2, w3, m1, d0_true, cond_true, hn, hm, avs_len, lt_true hi, lt_true hkm, tabv_len, lt_true l1, lt_true l2, blt_true l1, blt_true l2, Bool.and_self, tabv_get T (Nat.zero_le i) hi', tabv_get T (Nat.zero_le (i + 1)) hi1, rowt_shape, rowt_len, lt_true l3, lt_true l4, rowt_okg _ hf, rowt_okg _ hk1, rowt_get _ hf, rowt_get _ hk1, e_int, e_toInt, nth_av hin, nth_av hjn, av_shape, av_0, av_1, av_2, av_3, same_s _ _ hse hsf, Option.bind_some, g1, hd, stop3 _ _ _ _ (Int.natCast_nonneg k)]
        rfl
      · simp only [Int.toNat_natCast, w1, w2, w3', d0_true, cond_true, hm, avs_len, lt_true hi, lt_true hkm, tabv_len, eqv_len, lt_true l1, lt_true l2, blt_true l1, blt_true l2, blt_true hi, Bool.and_self, tabv_get T (Nat.zero_le i) hi', tabv_get T (Nat.zero_le (i + 1)) hi1, eqv_get E (Nat.zero_le i) hi, rowt_shape, rowb_shape, rowt_len, rowb_len, lt_true l3, lt_true l4, rowt_okg _ hf, rowt_okg _ hk1, rowb_okg _ hkm, rowb_get _ hkm, rowt_get _ hf, rowt_get _ hk1, e_int, e_toInt, shb, tob, hEk, g1, hd, lt_true h1, blt_true h1, h2, Bool.not_false]
        rfl
    · obtain ⟨q, q1, q2, q3⟩ := mfind hn hm hn1 hm1 ha hb hT hE hi hf d (k + 1) (by omega) (by omega)
      refine ⟨q, fun x hx => by have := q1 x hx; omega, fun out => ls_l15Match_3 _ _ _ _ _ _ _ _ ?_, fun out y4 y5 h1 h2 => li_matched_3 _ _ _ _ _ _ _ _ _ ?_⟩
      · simp only [Int.toNat_natCast, w1, w2, w3, m1, d0_true, cond_true, hn, hm, avs_len, lt_true hi, lt_true hkm, tabv_len, lt_true l1, lt_true l2, blt_true l1, blt_true l2, Bool.and_self, tabv_get T (Nat.zero_le i) hi', tabv_get T (Nat.zero_le (i + 1)) hi1, rowt_shape, rowt_len, lt_true l3, lt_true l4, rowt_okg _ hf, rowt_okg _ hk1, rowt_get _ hf, rowt_get _ hk1, e_int, e_toInt, nth_av hin, nth_av hjn, av_shape, av_0, av_1, av_2, av_3, same_s _ _ hse hsf, Option.bind_some, q2 out]
        cases g1 : sameT (nth us i) (nth vs k) with
        | false => rfl
        | true =>
          have g2 : ¬ (T (i + 1) (k + 1) + 1 = T i f) := fun h => g ⟨g1, h⟩
          simp only [cond_true, g2, decide_false, cond_false]
      · simp only [Int.toNat_natCast, w1, w2, w3', d0_true, cond_true, hm, avs_len, lt_true hi, lt_true hkm, tabv_len, eqv_len, lt_true l1, lt_true l2, blt_true l1, blt_true l2, blt_true hi, Bool.and_self, Bool.true_and, tabv_get T (Nat.zero_le i) hi', tabv_get T (Nat.zero_le (i + 1)) hi1, eqv_get E (Nat.zero_le i) hi, rowt_shape, rowb_shape, rowt_len, rowb_len, lt_true l3, lt_true l4, rowt_okg _ hf, rowt_okg _ hk1, rowb_okg _ hkm, rowb_get _ hkm, rowt_get _ hf, rowt_get _ hk1, e_int, e_toInt, shb, tob, hEk, q3 out y4 y5 h1 h2]
        cases g1 : sameT (nth us i) (nth vs k) with
        | false => rfl
        | true =>
          have g2 : ¬ (T (i + 1) (k + 1) + 1 = T i f) := fun h => g ⟨g1, h⟩
          simp only [cond_true, g2, decide_false, cond_false]
/-! All of them -/
/-- matches stand in order -/
structure MtOK (m : Nat) (R : List Int) : Prop where
  rng : ∀ x ∈ R, -1 ≤ x ∧ x < m
  inc : R.Pairwise fun a b => 0 ≤ b → a < b
theorem mall (hn : us.length = n) (hm : vs.length = m) (hn1 : n ≤ 1048576) (hm1 : m ≤ 1048576) (ha : szs us ≤ 1048576) (hb : szs vs ≤ 1048576) {T : Nat → Nat → Int} {E : Nat → Nat → Bool} (hT : Bd n T) (hE : ∀ r j, r < n → j < m → E r j = EQ us vs r j) : ∀ d i, i + d = n → ∀ (res : List Int) (f : Nat), res.length = i → f ≤ m → MtOK m res → (∀ x ∈ res, x < f) → ∃ R : List Int, R.length = n ∧ MtOK m R ∧
    Ls_l15Match_2 (avs us) (avs vs) (f : Int) (i : Int) (tabv n m 0 T) (res.map iv) = some (R.map iv) ∧
    Li_matched_2 (avs vs) (f : Int) (n : Int) (i : Int) (tabv n m 0 T) (eqv n m 0 E) (res.map iv ++ List.replicate d (iv 0)) = some (R.map iv)
  | 0, i, hd, res, f, hr, hf, hM, hx => by
    have hin : i = n := by omega
    subst hin
    refine ⟨res, hr, hM, ls_l15Match_2 _ _ _ _ _ _ ?_, li_matched_2 _ _ _ _ _ _ _ ?_⟩
    · simp only [avs_len, hn, lt_self, cond_false]
    · simp only [lt_self, cond_false, List.replicate_zero, List.append_nil]
  | d + 1, i, hd, res, f, hr, hf, hM, hx => by
    have hi : i < n := by omega
    obtain ⟨q, q1, q2, q3⟩ := mfind hn hm hn1 hm1 ha hb hT hE hi hf (m - f) f (by omega) (Nat.le_refl f)
    have w1 : IntKind.wrap .i64 ((i : Int) + 1) = ((i + 1 : Nat) : Int) := wrap_i (by omega)
    have hml : (res.map iv).length = i := by simp [hr]
    have hc : capB ((res.map iv).length + 1) 8 = true := capB_le (by omega)
    have hlen : i < (res.map iv ++ iv 0 :: List.replicate d (iv 0)).length := by simp [hr]
    have hag : aggQ ((res.map iv ++ iv 0 :: List.replicate d (iv 0)).getD i .und) = false := by rw [← hml, mid_get]; rfl
    have hset : ∀ v : Int, (res.map iv ++ iv 0 :: List.replicate d (iv 0)).set i (.int .i64 v) = (res ++ [v]).map iv ++ List.replicate d (iv 0) := fun v => by
      rw [← hml, mid_set]; simp [iv]
    have hlen2 : ∀ v : Int, i < ((res ++ [v]).map iv ++ List.replicate d (iv 0)).length := fun v => by simp [hr]
    have hag2 : ∀ v : Int, aggQ (((res ++ [v]).map iv ++ List.replicate d (iv 0)).getD i .und) = false := fun v => by
      have e : (res ++ [v]).map iv ++ List.replicate d (iv 0) = res.map iv ++ iv v :: List.replicate d (iv 0) := by simp
      rw [e, ← hml, mid_get]; rfl
    have hset2 : ∀ u v : Int, ((res ++ [u]).map iv ++ List.replicate d (iv 0)).set i (iv v) = (res ++ [v]).map iv ++ List.replicate d (iv 0) := fun u v => by
      have e : (res ++ [u]).map iv ++ List.replicate d (iv 0) = res.map iv ++ iv u :: List.replicate d (iv 0) := by simp
      rw [e, ← hml, mid_set]; simp
    obtain ⟨f', hf', hgo, hxs, hI⟩ : ∃ f' : Nat, f' ≤ m ∧ (f ≤ f' ∧ toI q < (f' : Int) ∧ -1 ≤ toI q ∧ toI q < m) ∧ (0 ≤ toI q → (f : Int) ≤ toI q) ∧ (nxtQ f q = (f' : Int) ∧ (if 0 ≤ toI q then toI q + 1 else (f : Int)) = (f' : Int)) := by
      cases q with
      | none => exact ⟨f, hf, ⟨Nat.le_refl f, by show (-1 : Int) < (f : Int); omega, by show (-1 : Int) ≤ -1; omega, by show (-1 : Int) < (m : Int); omega⟩, fun h => by simp [toI] at h, rfl, by simp [toI]⟩
      | some x =>
        have := q1 x rfl
        exact ⟨x + 1, by omega, ⟨by omega, by show ((x : Nat) : Int) < ((x + 1 : Nat) : Int); omega, by show (-1 : Int) ≤ ((x : Nat) : Int); omega, by show ((x : Nat) : Int) < (m : Int); omega⟩, fun _ => by show (f : Int) ≤ ((x : Nat) : Int); omega, rfl, by simp [toI]⟩
    have hM' : MtOK m (res ++ [toI q]) := by
      refine ⟨fun x hx' => ?_, ?_⟩
      · rcases List.mem_append.1 hx' with h | h
        · exact hM.rng x h
        · rw [List.mem_singleton.1 h]; exact ⟨hgo.2.2.1, hgo.2.2.2⟩
      · rw [List.pairwise_append]
        refine ⟨hM.inc, List.pairwise_singleton .., fun a ha' b hb' h0 => ?_⟩
        rw [List.mem_singleton.1 hb'] at h0 ⊢
        have := hx a ha'
        have := hxs h0
        omega
    have hx' : ∀ x ∈ res ++ [toI q], x < (f' : Int) := fun x h => by
      rcases List.mem_append.1 h with h | h
      · have := hx x h; omega
      · rw [List.mem_singleton.1 h]; exact hgo.2.1
    obtain ⟨R, r1, r2, r3, r4⟩ := mall hn hm hn1 hm1 ha hb hT hE d (i + 1) (by omega) (res ++ [toI q]) f' (by simp [hr]) hf' hM' hx'
    refine ⟨R, r1, r2, ls_l15Match_2 _ _ _ _ _ _ ?_, li_matched_2 _ _ _ _ _ _ _ ?_⟩
    · simp only [avs_len, hn, lt_true hi, cond_true, q2, Option.bind_some, hc, w1]
      have em : res.map iv ++ [AVal.int .i64 (toI q)] = (res ++ [toI q]).map iv := by simp [iv]
      have hv := hI.2
      by_cases g : 0 ≤ toI q
      · rw [if_pos g] at hv
        have wq : IntKind.wrap .i64 (toI q + 1) = (f' : Int) := by rw [wrap64 (by omega) (by omega)]; exact hv
        simp only [g, decide_true, cond_true, wq, em, r3]
      · rw [if_neg g] at hv
        simp only [g, decide_false, cond_false, em]
        rw [hv]; exact r3
    · have e0 : res.map iv ++ List.replicate (d + 1) (iv 0) = res.map iv ++ iv 0 :: List.replicate d (iv 0) := by rw [List.replicate_succ]
      rw [e0]
      have h3 := q3 ((res ++ [(-1 : Int)]).map iv ++ List.replicate d (iv 0)) (n : Int) (i : Int) (hlen2 _) (hag2 _)
      have e1 : outQ i ((res ++ [(-1 : Int)]).map iv ++ List.replicate d (iv 0)) q = (res ++ [toI q]).map iv ++ List.replicate d (iv 0) := by
        cases q with
        | none => rfl
        | some x => simp only [outQ, hset2]; rfl
      rw [e1, hI.1] at h3
      simp only [lt_true hi, cond_true, Int.toNat_natCast, d0_true, lt_true hlen, blt_true hlen, Bool.and_self, hag, Bool.not_false, hset, h3, Option.bind_some, w1, r4]
theorem matched2 (us vs : List Tr) (hn1 : us.length ≤ 1048576) (hm1 : vs.length ≤ 1048576) (ha : szs us ≤ 1048576) (hb : szs vs ≤ 1048576) : ∃ R : List Int, R.length = us.length ∧ MtOK vs.length R ∧ Fs_l15Match (avs us) (avs vs) = some (R.map iv) ∧ Fi_matched (avs us) (avs vs) = some (R.map iv) := by
  obtain ⟨n, hn⟩ : ∃ n, us.length = n := ⟨_, rfl⟩
  obtain ⟨m, hm⟩ : ∃ m, vs.length = m := ⟨_, rfl⟩
  rw [hn] at hn1; rw [hm] at hm1
  obtain ⟨T, E, t1, t2, t3, t4⟩ := mtab hn hm hn1 hm1 ha hb (n + 1) (Nat.le_refl _) (fun _ _ => 0) (fun _ _ => false) (fun i j h => ⟨Int.le_refl 0, by show (0 : Int) ≤ (n : Int) - i; omega⟩) (fun r j h1 h2 => by omega)
  obtain ⟨R, r1, r2, r3, r4⟩ := mall hn hm hn1 hm1 ha hb t1 t4 n 0 (by omega) [] 0 rfl (Nat.zero_le _) ⟨by simp, List.Pairwise.nil⟩ (by simp)
  have wn : IntKind.wrap .i64 ((n : Int) + 1) = ((n + 1 : Nat) : Int) := wrap_i (by omega)
  have hx : ((n + 1 : Nat) : Int) - 1 = (n : Int) := by omega
  have le1 : decide (((n + 1 : Nat) : Int) ≤ ((n + 1 : Nat) : Int)) = true := by simp
  have le2 : decide ((n : Int) ≤ (n : Int)) = true := by simp
  have c1 : capB (n + 1) 24 = true := capB_le (by omega)
  have c2 : capB n 24 = true := capB_le (by omega)
  have c3 : capB n 8 = true := capB_le (by omega)
  have eT : List.replicate (n + 1) (AVal.own 1 []) = tabv n m (n + 1) (fun _ _ => 0) := by
    rw [fn_rep]; refine fn_ext fun i hi => ?_
    rw [if_neg (by omega)]
  have eE : List.replicate n (AVal.own 1 []) = eqv n m (n + 1) (fun _ _ => false) := by
    rw [fn_rep]; refine fn_ext fun i hi => ?_
    rw [if_neg (by omega)]
  rw [hx] at t2 t3
  simp only [List.map_nil, List.nil_append, Int.natCast_zero] at r3 r4
  have e0 : List.replicate n (AVal.int .i64 0) = List.replicate n (iv 0) := rfl
  refine ⟨R, by rw [r1, hn], by rw [hm]; exact r2, us_l15Match _ _ ?_, ui_matched _ _ ?_⟩
  · simp only [avs_len, hn, wn, d0_true, le1, Int.toNat_natCast, c1, Bool.and_self, cond_true, bnd_eq, eT, t2, Option.bind_some, r3, asRoL_map asRo_iv]
  · simp only [avs_len, hn, wn, d0_true, le1, le2, Int.toNat_natCast, c1, c2, c3, Bool.and_self, cond_true, bnd_eq, eT, eE, t3, Option.bind_some, e0, r4]
end
end Go.Proofs.Ytnbpmjfemeeecaa
