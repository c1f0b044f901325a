/- The merge of trees, both sides; where the trees are not too large. -/
import Derived.Test.YtnbpmjfemeeecaaMg
namespace Go.Proofs.Ytnbpmjfemeeecaa
open Go.VK AVal
open Tr
theorem sub_av (xs : List Tr) (i k : Nat) : ((avs xs).take k).drop i = avs ((xs.take k).drop i) := by simp [avs_map]
theorem take_all (xs : List Tr) : xs.take xs.length = xs := List.take_length
theorem split_at {xs : List Tr} {i k : Nat} (hi : i ≤ k) (hk : k < xs.length) : xs.drop i = (xs.take k).drop i ++ nth xs k :: xs.drop (k + 1) := by
  have e1 : xs = xs.take k ++ xs.drop k := (List.take_append_drop k xs).symm
  have e2 : xs.drop k = nth xs k :: xs.drop (k + 1) := by
    rw [List.drop_eq_getElem_cons hk]
    simp [nth, List.getD_eq_getElem?_getD, hk]
  conv => lhs; rw [e1, List.drop_append_of_le_length (by simp; omega), e2]
theorem split_all {xs : List Tr} (i : Nat) : xs.drop i = (xs.take xs.length).drop i := by rw [List.take_length]
/-- the next match's place is at or after where we stand -/
def AftQ (R : List Int) (k j : Nat) : Prop := ∀ r, k ≤ r → r < R.length → 0 ≤ R.getD r 0 → (j : Int) ≤ R.getD r 0
theorem aft_next {R : List Int} {m k a : Nat} (h : MtOK m R) (hk : k < R.length) (ha : R.getD k 0 = (a : Int)) : AftQ R (k + 1) (a + 1) := fun r h1 h2 h3 => by
  have e := List.pairwise_iff_getElem.1 h.inc k r hk h2 (by omega)
  have e1 : R.getD k 0 = R[k] := by simp [List.getD_eq_getElem?_getD, hk]
  have e2 : R.getD r 0 = R[r] := by simp [List.getD_eq_getElem?_getD, h2]
  rw [e2] at h3 ⊢
  have := e h3
  rw [← e1, ha] at this
  omega
theorem aft_mono {R : List Int} {k j : Nat} (h : AftQ R k j) : AftQ R (k + 1) j := fun r h1 h2 h3 => h r (by omega) h2 h3
theorem mt_lt {R : List Int} {m k : Nat} (h : MtOK m R) (hk : k < R.length) : -1 ≤ R.getD k 0 ∧ R.getD k 0 < m := h.rng _ (getD_mem 0 hk)
theorem in3 {a b c : Nat} (h1 : a ≤ b) (h2 : b ≤ c) : (decide ((0 : Int) ≤ (a : Int)) && (decide ((a : Int) ≤ (b : Int)) && decide ((b : Int) ≤ (c : Int)))) = true := by
  simp only [Bool.and_eq_true, decide_eq_true_eq]; omega
theorem le_true {a b : Nat} (h : a ≤ b) : decide ((a : Int) ≤ (b : Int)) = true := decide_eq_true (by omega)
theorem ne_self (n : Nat) : decide ((n : Int) = (n : Int)) = true := by simp
theorem ne_lt {a b : Nat} (h : a < b) : decide ((a : Int) = (b : Int)) = false := decide_eq_false (by omega)
section
variable {bs ms ys : List Tr} {p : List Int} {R1 R2 : List Int} {N : Nat}
/-- the numbers that keep all small -/
structure Mz (bs ms ys : List Tr) (p : List Int) (N : Nat) : Prop where
  hN : mu bs ≤ N
  all : mu bs + mu ms + mu ys ≤ 1048576
  hp : p.length + 1 ≤ 61
  hd : ∀ t ∈ bs, p.length + 1 + dep t ≤ 61
theorem mem_sub {xs : List Tr} {i k : Nat} {t : Tr} (h : t ∈ (xs.take k).drop i) : t ∈ xs := List.mem_of_mem_take (List.mem_of_mem_drop h)
noncomputable abbrev Limp (bs ms ys : List Tr) (p : List Int) (R1 R2 : List Int) (i j l k : Nat) (cl : List (List Int)) (bn bt : ByteArray) (bl : Bool) (mn mtx : ByteArray) (ml : Bool) (yn yt : ByteArray) (yl : Bool) (o0 o1 : ByteArray) (o2 : Bool) (outs : List Tr) :=
  Li_merger_merge_0 (p.map iv) (i : Int) (j : Int) (l : Int) (k : Int) (cl.map rowo) bn bt bl (avs bs) mn mtx ml (avs ms) yn yt yl (avs ys) ByteArray.empty ByteArray.empty false [] o0 o1 o2 (avs outs) (R1.map iv) (R2.map iv)
theorem mloop (hN : PT N) (hz : Mz bs ms ys p N) (hr1 : R1.length = bs.length) (hr2 : R2.length = bs.length) (hm1 : MtOK ms.length R1) (hm2 : MtOK ys.length R2) (bn bt : ByteArray) (bl : Bool) (mn mtx : ByteArray) (ml : Bool) (yn yt : ByteArray) (yl : Bool) (o0 o1 : ByteArray) (o2 : Bool) : ∀ d k, k + d = bs.length → ∀ (i j l : Nat) (outs : List Tr) (cl : List (List Int)), i ≤ k → j ≤ ms.length → l ≤ ys.length → AftQ R1 k j → AftQ R2 k l →
    cl.length + 2 * mu (bs.drop i) + mu (ms.drop j) ≤ 10000000 → (∀ q ∈ cl, q.length ≤ 61) → outs.length + mu (bs.drop i) + mu (ms.drop j) + mu (ys.drop l) ≤ 9000000 →
    ∃ (R : List Tr) (cl' : List (List Int)), mu R ≤ mu (bs.drop i) + mu (ms.drop j) + mu (ys.drop l) ∧ cl'.length ≤ cl.length + 1 + 2 * mu (bs.drop i) + mu (ms.drop j) ∧ (∀ q ∈ cl', q.length ≤ 61) ∧
      Limp bs ms ys p R1 R2 i j l k cl bn bt bl mn mtx ml yn yt yl o0 o1 o2 outs = some (ByteArray.empty, ByteArray.empty, false, [], o0, o1, o2, avs (outs ++ R), cl'.map rowo) ∧
      Ls_l15Merger_lists_0 (avs bs) (avs ms) (avs ys) (p.map iv) (R1.map iv) (R2.map iv) (i : Int) (j : Int) (l : Int) (k : Int) (cl.map rowo) (avs outs) = some (avs (outs ++ R), cl'.map rowo)
  | 0, k, hd, i, j, l, outs, cl, hi, hj, hl, ha1, ha2, hc, hq, ho => by
    obtain rfl : k = bs.length := by omega
    have hza := hz.all
    have s0 : ∀ (xs : List Tr) q, mu (xs.drop q) ≤ mu xs := fun xs q => by
      have := mu_app (xs.take q) (xs.drop q); rw [List.take_append_drop] at this; omega
    have hbb := s0 bs i
    have hmm := s0 ms j
    have hyy := s0 ys l
    rw [split_all (xs := bs) i, split_all (xs := ms) j] at hc
    rw [split_all (xs := bs) i, split_all (xs := ms) j, split_all (xs := ys) l] at ho ⊢
    rw [split_all (xs := bs) i] at hbb
    rw [split_all (xs := ms) j] at hmm
    rw [split_all (xs := ys) l] at hyy
    obtain ⟨R, cl', r1, r2, r3, r4, r5⟩ := stretch hN _ _ _ p outs cl o0 o1 o2 (Nat.le_trans hbb hz.hN) (by omega) hz.hp (fun t h => hz.hd t (mem_sub h)) (by omega) hq ho
    have hbl : bs.length ≤ mu bs := by simp [mu]
    have hml : ms.length ≤ mu ms := by simp [mu]
    have hyl : ys.length ≤ mu ys := by simp [mu]
    have hRl : R.length ≤ mu R := by simp [mu]
    have w1 : IntKind.wrap .i64 ((bs.length : Int) + 1) = ((bs.length + 1 : Nat) : Int) := wrap_i (by omega)
    have hend : decide (((bs.length + 1 : Nat) : Int) ≤ (bs.length : Int)) = false := decide_eq_false (by omega)
    have cc : capB (outs.length + R.length) 64 = true := capB_le (by omega)
    refine ⟨R, cl', r1, r2, r3, li_merger_merge_0 _ _ _ _ _ _ _ _ _ _ _ _ _ _ _ _ _ _ _ _ _ _ _ _ _ _ _ _ ?_, ls_l15Merger_lists_0 _ _ _ _ _ _ _ _ _ _ _ _ ?_⟩
    · simp only [avs_len, le_true (Nat.le_refl _), lt_self, cond_true, cond_false, d0_true, le_true hi, le_true hj, le_true hl, Bool.and_self, Int.toNat_natCast, sub_av, r4, Option.bind_some, w1]
      refine li_merger_merge_0 _ _ _ _ _ _ _ _ _ _ _ _ _ _ _ _ _ _ _ _ _ _ _ _ _ _ _ _ ?_
      simp only [avs_len, hend, cond_false]
    · simp only [avs_len, le_true (Nat.le_refl _), decide_true, Bool.not_true, cond_true, cond_false, d0_true, le_true hi, le_true hj, le_true hl, Bool.and_self, Int.toNat_natCast, sub_av, r5, Option.bind_some, w1, cc, avs_app]
      refine ls_l15Merger_lists_0 _ _ _ _ _ _ _ _ _ _ _ _ ?_
      simp only [avs_len, hend, cond_false]
  | d + 1, k, hd, i, j, l, outs, cl, hi, hj, hl, ha1, ha2, hc, hq, ho => by
    have hk : k < bs.length := by omega
    have hk1 : k < R1.length := by omega
    have hk2 : k < R2.length := by omega
    have hza := hz.all
    have hbl : bs.length ≤ mu bs := by simp [mu]
    have hml : ms.length ≤ mu ms := by simp [mu]
    have hyl : ys.length ≤ mu ys := by simp [mu]
    have w1 : IntKind.wrap .i64 ((k : Int) + 1) = ((k + 1 : Nat) : Int) := wrap_i (by omega)
    obtain ⟨u1, u2⟩ := mt_lt hm1 hk1
    obtain ⟨v1, v2⟩ := mt_lt hm2 hk2
    have agi : ∀ x : Int, aggQ (iv x) = false := fun _ => rfl
    by_cases g1 : R1.getD k 0 < 0
    · obtain ⟨R, cl', r1, r2, r3, r4, r5⟩ := mloop hN hz hr1 hr2 hm1 hm2 bn bt bl mn mtx ml yn yt yl o0 o1 o2 d (k + 1) (by omega) i j l outs cl (by omega) hj hl (aft_mono ha1) (aft_mono ha2) hc hq ho
      refine ⟨R, cl', r1, r2, r3, li_merger_merge_0 _ _ _ _ _ _ _ _ _ _ _ _ _ _ _ _ _ _ _ _ _ _ _ _ _ _ _ _ ?_, ls_l15Merger_lists_0 _ _ _ _ _ _ _ _ _ _ _ _ ?_⟩
      · simp only [avs_len, List.length_map, le_true (Nat.le_of_lt hk), lt_true hk, cond_true, d0_true, lt_true hk1, blt_true hk1, Bool.and_self, Int.toNat_natCast, getD_map' iv 0 hk1, e_int, e_toInt, g1, decide_true, w1]
        exact r4
      · simp only [avs_len, List.length_map, le_true (Nat.le_of_lt hk), ne_lt hk, Bool.not_false, lt_true hk, cond_true, d0_true, lt_true hk1, Bool.and_self, Int.toNat_natCast, getD_map' iv 0 hk1, e_int, e_toInt, g1, decide_true, w1]
        exact r5
    by_cases g2 : R2.getD k 0 < 0
    · obtain ⟨R, cl', r1, r2, r3, r4, r5⟩ := mloop hN hz hr1 hr2 hm1 hm2 bn bt bl mn mtx ml yn yt yl o0 o1 o2 d (k + 1) (by omega) i j l outs cl (by omega) hj hl (aft_mono ha1) (aft_mono ha2) hc hq ho
      refine ⟨R, cl', r1, r2, r3, li_merger_merge_0 _ _ _ _ _ _ _ _ _ _ _ _ _ _ _ _ _ _ _ _ _ _ _ _ _ _ _ _ ?_, ls_l15Merger_lists_0 _ _ _ _ _ _ _ _ _ _ _ _ ?_⟩
      · simp only [avs_len, List.length_map, le_true (Nat.le_of_lt hk), lt_true hk, cond_true, cond_false, d0_true, lt_true hk1, blt_true hk1, lt_true hk2, blt_true hk2, Bool.and_self, Int.toNat_natCast, getD_map' iv 0 hk1, getD_map' iv 0 hk2, e_int, e_toInt, g1, g2, decide_true, decide_false, w1]
        exact r4
      · simp only [avs_len, List.length_map, le_true (Nat.le_of_lt hk), ne_lt hk, Bool.not_false, lt_true hk, cond_true, cond_false, d0_true, lt_true hk1, lt_true hk2, Bool.and_self, Int.toNat_natCast, getD_map' iv 0 hk1, getD_map' iv 0 hk2, e_int, e_toInt, g1, g2, decide_true, decide_false, w1]
        exact r5
    obtain ⟨a, ha⟩ : ∃ a : Nat, R1.getD k 0 = (a : Int) := ⟨(R1.getD k 0).toNat, by omega⟩
    obtain ⟨c, hcc⟩ : ∃ c : Nat, R2.getD k 0 = (c : Int) := ⟨(R2.getD k 0).toNat, by omega⟩
    have haj : j ≤ a := by have := ha1 k (Nat.le_refl k) hk1 (by omega); omega
    have hcl : l ≤ c := by have := ha2 k (Nat.le_refl k) hk2 (by omega); omega
    rw [ha] at g1 u2
    rw [hcc] at g2 v2
    have ham : a < ms.length := by omega
    have hcy : c < ys.length := by omega
    have eb := congrArg mu (split_at hi hk)
    have em := congrArg mu (split_at haj ham)
    have ey := congrArg mu (split_at hcl hcy)
    rw [mu_app, mu_cons] at eb em ey
    have s0 : ∀ (xs : List Tr) q, mu (xs.drop q) ≤ mu xs := fun xs q => by
      have := mu_app (xs.take q) (xs.drop q); rw [List.take_append_drop] at this; omega
    have hbb := s0 bs i
    have hmm := s0 ms j
    have hyy := s0 ys l
    obtain ⟨S, cl1, r1, r2, r3, r4, r5⟩ := stretch hN ((bs.take k).drop i) ((ms.take a).drop j) ((ys.take c).drop l) p outs cl o0 o1 o2 (by have := hz.hN; omega) (by omega) hz.hp (fun t h => hz.hd t (mem_sub h)) (by omega) hq (by omega)
    have hSl : S.length ≤ mu S := by simp [mu]
    have el : (outs ++ S ++ [nth bs k]).length = outs.length + S.length + 1 := by simp [Nat.add_assoc]
    obtain ⟨R, cl', t1, t2, t3, t4, t5⟩ := mloop hN hz hr1 hr2 hm1 hm2 bn bt bl mn mtx ml yn yt yl o0 o1 o2 d (k + 1) (by omega) (k + 1) (a + 1) (c + 1) (outs ++ S ++ [nth bs k]) cl1 (Nat.le_refl _) ham hcy (aft_next hm1 hk1 ha) (aft_next hm2 hk2 hcc) (by omega) r3 (by rw [el]; omega)
    have wa : IntKind.wrap .i64 ((a : Int) + 1) = ((a + 1 : Nat) : Int) := wrap_i (by omega)
    have wc : IntKind.wrap .i64 ((c : Int) + 1) = ((c + 1 : Nat) : Int) := wrap_i (by omega)
    have c1 : capB (outs.length + S.length) 64 = true := capB_le (by omega)
    have c2 : capB (outs.length + S.length + 1) 64 = true := capB_le (by omega)
    have lenS : (outs ++ S).length = outs.length + S.length := by simp
    have ez : AVal.agg [.str (ByteArray.mk #[]), .str (ByteArray.mk #[]), .bool false, .nils 4] = zT := rfl
    have eR : outs ++ S ++ [nth bs k] ++ R = outs ++ (S ++ nth bs k :: R) := by simp
    rw [eR] at t4 t5
    have k1 := le_true (Nat.le_of_lt ham)
    have k2 := le_true (Nat.le_of_lt hcy)
    have zl := z_len (outs ++ S) zT
    have zg := z_get (outs ++ S) zT
    have zs := z_set (outs ++ S) zT
    rw [lenS] at zl zg zs
    refine ⟨S ++ nth bs k :: R, cl', by rw [mu_app, mu_cons]; omega, by omega, t3, li_merger_merge_0 _ _ _ _ _ _ _ _ _ _ _ _ _ _ _ _ _ _ _ _ _ _ _ _ _ _ _ _ ?_, ls_l15Merger_lists_0 _ _ _ _ _ _ _ _ _ _ _ _ ?_⟩
    · simp only [avs_len, List.length_map, le_true (Nat.le_of_lt hk), lt_true hk, cond_true, cond_false, d0_true, lt_true hk1, blt_true hk1, lt_true hk2, blt_true hk2, Bool.and_self, Int.toNat_natCast, getD_map' iv 0 hk1, getD_map' iv 0 hk2, e_int, e_toInt, ha, hcc, g1, g2, decide_false, w1, le_true hi, le_true haj, k1, le_true hcl, k2, sub_av, r4, Option.bind_some, wa, wc, nth_av hk, av_shape, av_0, av_1, av_2, av_3, lenS, c2, bnd_eq, ez, zl, lt_succ', blt_succ', zg, zT_agg, zT_ble, zs, zT_put, agg_av', avs_snoc']
      exact t4
    · simp only [avs_len, List.length_map, le_true (Nat.le_of_lt hk), ne_lt hk, Bool.not_false, lt_true hk, cond_true, cond_false, d0_true, lt_true hk1, lt_true hk2, Bool.and_self, Int.toNat_natCast, getD_map' iv 0 hk1, getD_map' iv 0 hk2, e_int, e_toInt, ha, hcc, g1, g2, decide_false, w1, le_true hi, le_true haj, k1, le_true hcl, k2, sub_av, r5, Option.bind_some, wa, wc, nth_av hk, av_shape, av_0, av_1, av_2, av_3, avs_app, lenS, c1, c2, bnd_eq, agg_av', avs_snoc', t5]
end
theorem trees_step {N : Nat} (hN : PT N) : PT (N + 1) := by
  intro b m y p cl h1 h2 hp hc hq
  have k1s := same_s m y (by omega) (by omega)
  have k2s := same_s y b (by omega) (by omega)
  have k3s := same_s m b (by omega) (by omega)
  have k1i := same_i m y (by omega) (by omega)
  have k2i := same_i y b (by omega) (by omega)
  have k3i := same_i m b (by omega) (by omega)
  by_cases g1 : sameT m y = true
  · refine ⟨m, cl, by omega, by omega, hq, ui_merger_merge _ _ _ _ _ _ _ _ _ _ _ _ _ _ ?_, us_l15Merger_trees _ _ _ _ _ _ _ _ _ _ _ _ _ _ ?_⟩
    · simp only [k1i, g1, Option.bind_some, cond_true, T5]
    · simp only [k1s, g1, Option.bind_some, cond_true, T5]
  by_cases g2 : sameT y b = true
  · refine ⟨m, cl, by omega, by omega, hq, ui_merger_merge _ _ _ _ _ _ _ _ _ _ _ _ _ _ ?_, us_l15Merger_trees _ _ _ _ _ _ _ _ _ _ _ _ _ _ ?_⟩
    · simp only [k1i, Bool.eq_false_iff.2 g1, k2i, g2, Option.bind_some, cond_true, cond_false, T5]
    · simp only [k1s, Bool.eq_false_iff.2 g1, k2s, g2, Option.bind_some, cond_true, cond_false, T5]
  by_cases g3 : sameT m b = true
  · refine ⟨y, cl, by omega, by omega, hq, ui_merger_merge _ _ _ _ _ _ _ _ _ _ _ _ _ _ ?_, us_l15Merger_trees _ _ _ _ _ _ _ _ _ _ _ _ _ _ ?_⟩
    · simp only [k1i, Bool.eq_false_iff.2 g1, k2i, Bool.eq_false_iff.2 g2, k3i, g3, Option.bind_some, cond_true, cond_false, T5]
    · simp only [k1s, Bool.eq_false_iff.2 g1, k2s, Bool.eq_false_iff.2 g2, k3s, g3, Option.bind_some, cond_true, cond_false, T5]
  have f1 := Bool.eq_false_iff.2 g1
  have f2 := Bool.eq_false_iff.2 g2
  have f3 := Bool.eq_false_iff.2 g3
  have hd1 := dep_pos b
  have ci := clash_i p cl (by omega) (by omega)
  have cs := clash_s p cl (by omega) (by omega)
  by_cases q : b.leaf = false ∧ m.leaf = false ∧ y.leaf = false ∧ b.name = m.name ∧ b.name = y.name
  · obtain ⟨q1, q2, q3, q4, q5⟩ := q
    cases b with | mk bn bt bl bk => cases m with | mk mn mtx ml mk => cases y with | mk yn yt yl yk =>
    simp only [Tr.name, Tr.text, Tr.leaf, Tr.kids] at *
    subst q1; subst q2; subst q3; subst q4; subst q5
    simp only [sz] at h1 h2 hc
    simp only [dep] at hp
    have mb : mu bk = bk.length + szs bk := rfl
    have mm : mu mk = mk.length + szs mk := rfl
    have my : mu yk = yk.length + szs yk := rfl
    obtain ⟨R1, r1, r2, r3, r4⟩ := matched2 bk mk (by omega) (by omega) (by omega) (by omega)
    obtain ⟨R2, t1, t2, t3, t4⟩ := matched2 bk yk (by omega) (by omega) (by omega) (by omega)
    have af : ∀ R : List Int, AftQ R 0 0 := fun R r _ _ h => by simpa using h
    obtain ⟨R, cl', e1, e2, e3, e4, e5⟩ := mloop hN (bs := bk) (ms := mk) (ys := yk) (p := p) ⟨by omega, by omega, by omega, fun t ht => by have := dep_mem ht; omega⟩ r1 t1 r2 t2 bn bt false bn mtx false bn yt false bn ByteArray.empty false bk.length 0 (by omega) 0 0 0 [] cl (Nat.le_refl _) (Nat.zero_le _) (Nat.zero_le _) (af R1) (af R2) (by simp only [List.drop_zero]; omega) hq (by simp only [List.drop_zero, List.length_nil]; omega)
    simp only [List.drop_zero, List.nil_append, Int.natCast_zero, Limp, avs] at e1 e2 e4 e5
    have mR : mu R = R.length + szs R := rfl
    have z0 : ByteArray.empty.size = 0 := rfl
    refine ⟨.mk bn ByteArray.empty false R, cl', by simp only [sz, z0]; omega, by simp only [sz]; omega, e3, ui_merger_merge _ _ _ _ _ _ _ _ _ _ _ _ _ _ ?_, us_l15Merger_trees _ _ _ _ _ _ _ _ _ _ _ _ _ _ ?_⟩
    · simp only [k1i, f1, k2i, f2, k3i, f3, Option.bind_some, cond_false, decide_true, Bool.not_true, r4, t4, e4, Option.bind_some, asRoL_avs, T5, Tr.name, Tr.text, Tr.leaf, Tr.kids]
    · have hl : Fs_l15Merger_lists (avs bk) (avs mk) (avs yk) (p.map iv) (cl.map rowo) = some (avs R, cl'.map rowo) := us_l15Merger_lists _ _ _ _ _ (by simp only [r3, t3, Option.bind_some, e5, asRoL_avs])
      have hn : Fs_l01Node bn (avs R) = some (bn, ByteArray.empty, false, avs R) := us_l01Node _ _ rfl
      simp only [k1s, f1, k2s, f2, k3s, f3, Option.bind_some, cond_false, cond_true, decide_true, Bool.not_false, hl, hn, T5, Tr.name, Tr.text, Tr.leaf, Tr.kids]
  · refine ⟨m, cl ++ [p], by omega, by rw [List.length_append]; simp only [List.length_cons, List.length_nil]; omega, snoc_ok hq (by omega), ui_merger_merge _ _ _ _ _ _ _ _ _ _ _ _ _ _ ?_, us_l15Merger_trees _ _ _ _ _ _ _ _ _ _ _ _ _ _ ?_⟩
    · simp only [k1i, f1, k2i, f2, k3i, f3, Option.bind_some, cond_false]
      cases q1 : b.leaf with
      | true => simp only [cond_true, ci, Option.bind_some, T5]
      | false =>
        cases q2 : m.leaf with
        | true => simp only [cond_true, cond_false, ci, Option.bind_some, T5, q2]
        | false =>
          cases q3 : y.leaf with
          | true => simp only [cond_true, cond_false, ci, Option.bind_some, T5, q2]
          | false =>
            by_cases q4 : b.name = m.name
            · have q5 : ¬ b.name = y.name := fun h => q ⟨q1, q2, q3, q4, h⟩
              have d4 : decide (b.name = m.name) = true := decide_eq_true q4
              have d5 : decide (b.name = y.name) = false := decide_eq_false q5
              simp only [cond_true, cond_false, d4, d5, Bool.not_true, Bool.not_false, ci, Option.bind_some, T5, q2]
            · have d4 : decide (b.name = m.name) = false := decide_eq_false q4
              simp only [cond_true, cond_false, d4, Bool.not_false, ci, Option.bind_some, T5, q2]
    · simp only [k1s, f1, k2s, f2, k3s, f3, Option.bind_some, cond_false]
      cases q1 : b.leaf with
      | true => simp only [Bool.not_true, cond_false, cs, Option.bind_some, T5]
      | false =>
        cases q2 : m.leaf with
        | true => simp only [Bool.not_true, Bool.not_false, cond_true, cond_false, cs, Option.bind_some, T5, q2]
        | false =>
          cases q3 : y.leaf with
          | true => simp only [Bool.not_true, Bool.not_false, cond_true, cond_false, cs, Option.bind_some, T5, q2]
          | false =>
            by_cases q4 : b.name = m.name
            · have q5 : ¬ b.name = y.name := fun h => q ⟨q1, q2, q3, q4, h⟩
              have d4 : decide (b.name = m.name) = true := decide_eq_true q4
              have d5 : decide (b.name = y.name) = false := decide_eq_false q5
              simp only [cond_true, cond_false, d4, d5, Bool.not_false, cs, Option.bind_some, T5, q2]
            · have d4 : decide (b.name = m.name) = false := decide_eq_false q4
              simp only [cond_true, cond_false, d4, Bool.not_false, cs, Option.bind_some, T5, q2]
theorem trees2 : ∀ N, PT N
  | 0 => fun b m y p cl h => by omega
  | N + 1 => trees_step (trees2 N)
end Go.Proofs.Ytnbpmjfemeeecaa
