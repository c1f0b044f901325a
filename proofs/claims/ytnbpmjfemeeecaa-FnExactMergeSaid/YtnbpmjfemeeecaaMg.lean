/- The merge of a stretch, both sides; where the trees are not too large. -/
import Derived.Test.YtnbpmjfemeeecaaMd
import Derived.Test.YtnbpmjfemeeecaaTo
namespace Go.Proofs.Ytnbpmjfemeeecaa
open Go.VK AVal
open Tr
theorem agg_av' (t : Tr) : AVal.agg [.str t.name, .str t.text, .bool t.leaf, .ro false 4 (avs t.kids)] = av t := by cases t; rfl
theorem avs_snoc' (o : List Tr) (t : Tr) : avs o ++ [av t] = avs (o ++ [t]) := by simp [avs_map]
theorem avs_app (a b : List Tr) : avs a ++ avs b = avs (a ++ b) := by simp [avs_map]
theorem dep_mem : ∀ {ks : List Tr} {k : Tr}, k ∈ ks → dep k ≤ deps ks
  | a :: ks, k, h => by
    simp only [List.mem_cons] at h
    simp only [deps]
    rcases h with rfl | h
    · omega
    · have := dep_mem h; omega
def mu (xs : List Tr) : Nat := xs.length + szs xs
theorem mu_app (a b : List Tr) : mu (a ++ b) = mu a + mu b := by simp only [mu, List.length_append, szs_append]; omega
theorem mu_cons (a : Tr) (b : List Tr) : mu (a :: b) = 1 + sz a + mu b := by simp only [mu, List.length_cons, szs]; omega
theorem mu_nil : mu [] = 0 := by simp [mu, szs]
/-- the zero of a tree's cell -/
def zT : AVal := .agg [.str (ByteArray.mk #[]), .str (ByteArray.mk #[]), .bool false, .nils 4]
theorem zT_agg : aggQ zT = true := rfl
theorem zT_ble : Nat.ble 4 zT.cells.length = true := rfl
theorem zT_put (a b : ByteArray) (c : Bool) (d : List AVal) : AVal.agg (setMany zT.cells 0 [.str a, .str b, .bool c, .ro false 4 d]) = .agg [.str a, .str b, .bool c, .ro false 4 d] := rfl
theorem z_get (o : List Tr) (z : AVal) : (avs o ++ [z]).getD o.length .und = z := by rw [← avs_len o]; exact mid_get ..
theorem z_set (o : List Tr) (z w : AVal) : (avs o ++ [z]).set o.length w = avs o ++ [w] := by rw [← avs_len o]; exact mid_set ..
theorem z_len (o : List Tr) (z : AVal) : (avs o ++ [z]).length = o.length + 1 := by simp [avs_len]
theorem lt_succ' (n : Nat) : decide ((n : Int) < ((n + 1 : Nat) : Int)) = true := decide_eq_true (by omega)
theorem blt_succ' (n : Nat) : Nat.blt n (n + 1) = true := by simp
/-! One clash -/
theorem clash_s (p : List Int) (cl : List (List Int)) (hp : p.length ≤ 1000) (hc : cl.length ≤ 100000000) : Fs_l15Merger_clash (p.map iv) (cl.map rowo) = some ((cl ++ [p]).map rowo) := by
  refine us_l15Merger_clash _ _ ?_
  have c1 : capB (0 + p.length) 8 = true := capB_le (by omega)
  have c2 : capB (cl.length + 1) 24 = true := capB_le (by omega)
  simp only [List.length_map, c1, c2, cond_true, List.map_append, List.map_cons, List.map_nil, rowo]
theorem clash_i (p : List Int) (cl : List (List Int)) (hp : p.length ≤ 1000) (hc : cl.length ≤ 100000000) : Fi_merger_clash (p.map iv) (cl.map rowo) = some ((cl ++ [p]).map rowo) := by
  refine ui_merger_clash _ _ ?_
  have c1 : capB (0 + p.length) 8 = true := capB_le (by omega)
  have c2 : capB (cl.length + 1) 24 = true := capB_le (by omega)
  simp only [List.length_map, c1, c2, cond_true, List.map_append, List.map_cons, List.map_nil, rowo]
theorem under (n : Nat) (p : List Int) (hp : p.length ≤ 1000) : Fi_merger_stretch_1 (n : Int) (p.map iv) = some ((p ++ [(n : Int)]).map iv, p.map iv) := by
  refine ui_merger_stretch_1 _ _ ?_
  have c1 : capB (p.length + 1) 8 = true := capB_le (by omega)
  have le1 : decide ((p.length : Int) ≤ (p.length : Int)) = true := by simp
  have e1 : (p.map iv).take p.length = p.map iv := List.take_of_length_le (by simp)
  have e2 : p.map iv ++ [AVal.int .i64 (n : Int)] = (p ++ [(n : Int)]).map iv := by simp [iv]
  simp only [List.length_map, d0_true, le1, Int.toNat_natCast, decide_true, Bool.and_self, cond_true, e1, List.drop_zero, Bool.or_true, c1, bnd_eq, e2, asRoL_map asRo_iv]
theorem down (n : Nat) (p : List Int) (hp : p.length ≤ 1000) : Fs_l12Down (p.map iv) (n : Int) = some ((p ++ [(n : Int)]).map iv) := by
  refine us_l12Down _ _ ?_
  have c1 : capB (0 + p.length) 8 = true := capB_le (by omega)
  have c2 : capB (p.length + 1) 8 = true := capB_le (by omega)
  have e2 : p.map iv ++ [AVal.int .i64 (n : Int)] = (p ++ [(n : Int)]).map iv := by simp [iv]
  simp only [List.length_map, c1, c2, cond_true, e2, asRoL_map asRo_iv]
/-! Clashes all along a stretch -/
def clsF (p : List Int) : Nat → Nat → List (List Int)
  | _, 0 => []
  | a, n + 1 => (p ++ [(a : Int)]) :: clsF p (a + 1) n
theorem clsF_len (p : List Int) : ∀ n a, (clsF p a n).length = n
  | 0, _ => rfl
  | n + 1, a => by simp [clsF, clsF_len p n]
theorem clsF_mem (p : List Int) : ∀ n a, ∀ q ∈ clsF p a n, q.length = p.length + 1
  | 0, _, q, h => by simp [clsF] at h
  | n + 1, a, q, h => by
    simp only [clsF, List.mem_cons] at h
    rcases h with rfl | h
    · simp
    · exact clsF_mem p n _ q h
theorem cls_s (ms : List Tr) (p : List Int) (hp : p.length ≤ 100) (a : Nat) (ha : a ≤ 100000000) (hm : ms.length ≤ 1048576) : ∀ d i, i + d = ms.length → ∀ cl : List (List Int), cl.length + d ≤ 100000000 →
    Ls_l15Merger_stretch_0 (avs ms) (p.map iv) (a : Int) (i : Int) (cl.map rowo) = some (avs ms, p.map iv, (a : Int), (cl ++ clsF p (a + i) d).map rowo)
  | 0, i, h, cl, hc => by
    have : i = ms.length := by omega
    subst this
    refine ls_l15Merger_stretch_0 _ _ _ _ _ ?_
    simp only [avs_len, lt_self, cond_false, clsF, List.append_nil]
  | d + 1, i, h, cl, hc => by
    have hi : i < ms.length := by omega
    have w1 : IntKind.wrap .i64 ((a : Int) + (i : Int)) = ((a + i : Nat) : Int) := by rw [wrap64 (by omega) (by omega)]; omega
    have w2 : IntKind.wrap .i64 ((i : Int) + 1) = ((i + 1 : Nat) : Int) := wrap_i (by omega)
    have ih := cls_s ms p hp a ha hm d (i + 1) (by omega) (cl ++ [p ++ [((a + i : Nat) : Int)]]) (by simp; omega)
    refine ls_l15Merger_stretch_0 _ _ _ _ _ ?_
    simp only [avs_len, lt_true hi, cond_true, w1, w2, down _ p (by omega), Option.bind_some, clash_s (p ++ [((a + i : Nat) : Int)]) cl (by simp; omega) (by omega), ih, clsF, List.append_assoc, List.cons_append, List.nil_append, Nat.add_assoc]
theorem cls_i (p : List Int) (hp : p.length ≤ 100) (o0 o1 : ByteArray) (o2 : Bool) : ∀ (suf pre outs : List Tr) (cl : List (List Int)), (pre ++ suf).length ≤ 1048576 → outs.length + suf.length ≤ 100000000 → cl.length + suf.length ≤ 100000000 →
    Li_merger_stretch_0 (avs (pre ++ suf)) ((pre ++ suf).length : Int) (pre.length : Int) (cl.map rowo) o0 o1 o2 (avs outs) (p.map iv) = some ((cl ++ clsF p outs.length suf.length).map rowo, o0, o1, o2, avs (outs ++ suf))
  | [], pre, outs, cl, h1, h2, h3 => by
    refine li_merger_stretch_0 _ _ _ _ _ _ _ _ _ ?_
    simp only [List.append_nil, lt_self, cond_false, clsF, List.length_nil]
  | k :: suf, pre, outs, cl, h1, h2, h3 => by
    have hm := mid_lt pre suf k
    simp only [List.length_cons] at h2 h3
    have h1' : pre.length + (suf.length + 1) ≤ 1048576 := by simpa using h1
    have ih := cls_i p hp o0 o1 o2 suf (pre ++ [k]) (outs ++ [k]) (cl ++ [p ++ [(outs.length : Int)]]) (by simpa using h1) (by simp; omega) (by simp; omega)
    have el : ∀ x : Tr, (pre ++ [x]).length = pre.length + 1 := fun x => by simp
    simp only [List.append_assoc, List.cons_append, List.nil_append, el] at ih
    have c1 : capB (outs.length + 1) 64 = true := capB_le (by omega)
    refine li_merger_stretch_0 _ _ _ _ _ _ _ _ _ ?_
    have ez : AVal.agg [.str (ByteArray.mk #[]), .str (ByteArray.mk #[]), .bool false, .nils 4] = zT := rfl
    simp only [Int.toNat_natCast, avs_len, dlt_true hm, d0_true, Bool.and_self, cond_true, avs_get, av_shape, av_0, av_1, av_2, av_3, under _ p (by omega), Option.bind_some, clash_i (p ++ [(outs.length : Int)]) cl (by simp; omega) (by omega), c1, bnd_eq, ez, z_len, lt_succ', blt_succ', z_get, zT_agg, zT_ble, z_set, zT_put, agg_av', avs_snoc', wrap_succ hm (by omega), ih]
    simp only [List.length_cons, clsF, List.length_append, List.length_nil]
/-! What a stretch and a tree give -/
def T5 (R : Tr) (cl : List (List Int)) : ByteArray × ByteArray × Bool × List AVal × List AVal := (R.name, R.text, R.leaf, avs R.kids, cl.map rowo)
def PT (N : Nat) : Prop := ∀ (b m y : Tr) (p : List Int) (cl : List (List Int)), sz b < N → sz b + sz m + sz y ≤ 1048576 → p.length + dep b ≤ 61 → cl.length + 2 * sz b + sz m ≤ 10000000 → (∀ q ∈ cl, q.length ≤ 61) →
  ∃ (R : Tr) (cl' : List (List Int)), sz R ≤ sz b + sz m + sz y ∧ cl'.length ≤ cl.length + 1 + 2 * sz b + sz m ∧ (∀ q ∈ cl', q.length ≤ 61) ∧
    Fi_merger_merge b.name b.text b.leaf (avs b.kids) m.name m.text m.leaf (avs m.kids) y.name y.text y.leaf (avs y.kids) (p.map iv) (cl.map rowo) = some (T5 R cl') ∧
    Fs_l15Merger_trees b.name b.text b.leaf (avs b.kids) m.name m.text m.leaf (avs m.kids) y.name y.text y.leaf (avs y.kids) (p.map iv) (cl.map rowo) = some (T5 R cl')
theorem snoc_ok {cl : List (List Int)} {q : List Int} (h : ∀ q ∈ cl, q.length ≤ 61) (hq : q.length ≤ 61) : ∀ r ∈ cl ++ [q], r.length ≤ 61 := fun r hr => by
  rcases List.mem_append.1 hr with g | g
  · exact h r g
  · rw [List.mem_singleton.1 g]; exact hq
theorem app_ok {cl xs : List (List Int)} (h : ∀ q ∈ cl, q.length ≤ 61) (hq : ∀ q ∈ xs, q.length ≤ 61) : ∀ r ∈ cl ++ xs, r.length ≤ 61 := fun r hr => by
  rcases List.mem_append.1 hr with g | g
  · exact h r g
  · exact hq r g
theorem one_ex {xs : List Tr} (h : xs.length = 1) : ∃ t, xs = [t] := List.length_eq_one_iff.1 h
theorem avs_one (t : Tr) : (avs [t]).getD 0 .und = av t := by simp [avs]
/-- the middle of a stretch where nothing is the same on two sides -/
theorem mid_clash (bs ms ys : List Tr) (p : List Int) (outs : List Tr) (cl : List (List Int)) (o0 o1 : ByteArray) (o2 : Bool) (hm : ms.length ≤ 1048576) (hp : p.length + 1 ≤ 61) (ho : outs.length + ms.length ≤ 10000000) (hc : cl.length + mu ms ≤ 20000000) (hq : ∀ q ∈ cl, q.length ≤ 61) :
    ∃ cl' : List (List Int), cl'.length ≤ cl.length + 1 + mu ms ∧ (∀ q ∈ cl', q.length ≤ 61) ∧
    (bif decide (((avs ms).length : Int) = 0) then (Fi_merger_stretch_1 ((avs outs).length : Int) (p.map iv)).bind fun r8 => (Fi_merger_clash r8.1 (cl.map rowo)).bind fun r9 => (Li_merger_stretch_0 (avs ms) ((avs ms).length : Int) 0 r9 o0 o1 o2 (avs outs) r8.2).bind fun e14 => some (e14.1, e14.2.1, e14.2.2.1, e14.2.2.2.1, e14.2.2.2.2)
      else (Li_merger_stretch_0 (avs ms) ((avs ms).length : Int) 0 (cl.map rowo) o0 o1 o2 (avs outs) (p.map iv)).bind fun e14 => some (e14.1, e14.2.1, e14.2.2.1, e14.2.2.2.1, e14.2.2.2.2)) = some (cl'.map rowo, o0, o1, o2, avs (outs ++ ms)) ∧
    ((Ls_l15Merger_stretch_0 (avs ms) (p.map iv) (outs.length : Int) 0 (cl.map rowo)).bind fun e8 => bif (decide (((e8.1.length : Nat) : Int) = 0)) then ((Fs_l12Down e8.2.1 e8.2.2.1).bind fun r9 => (Fs_l15Merger_clash r9 e8.2.2.2).bind fun r10 => some (e8.1, r10)) else (some (e8.1, e8.2.2.2))) = some (avs ms, cl'.map rowo) := by
  have hmu : ms.length ≤ mu ms := by simp [mu]
  cases ms with
  | nil =>
    refine ⟨cl ++ [p ++ [(outs.length : Int)]], by rw [List.length_append]; simp only [List.length_cons, List.length_nil]; omega, snoc_ok hq (by simp; omega), ?_, ?_⟩
    · have e := cls_i p (by omega) o0 o1 o2 [] [] outs (cl ++ [p ++ [(outs.length : Int)]]) (by simp) (by simp only [List.length_nil] at ho ⊢; omega) (by simp; omega)
      simp only [List.append_nil, List.length_nil, Int.natCast_zero, clsF] at e
      simp only [avs_len, List.length_nil, Int.natCast_zero, decide_true, cond_true, under _ p (by omega), Option.bind_some, clash_i (p ++ [(outs.length : Int)]) cl (by simp; omega) (by omega), e, List.append_nil]
    · have e := cls_s [] p (by omega) outs.length (by omega) (by simp) 0 0 rfl cl (by omega)
      simp only [clsF, List.append_nil, Int.natCast_zero] at e
      simp only [e, Option.bind_some, avs_len, List.length_nil, Int.natCast_zero, decide_true, cond_true, down _ p (by omega), clash_s (p ++ [(outs.length : Int)]) cl (by simp; omega) (by omega)]
  | cons t ts =>
    have hd : ¬ (((t :: ts).length : Int) = 0) := by simp only [List.length_cons]; omega
    refine ⟨cl ++ clsF p outs.length (t :: ts).length, by rw [List.length_append, clsF_len]; omega, app_ok hq (fun q h => by rw [clsF_mem p _ _ q h]; omega), ?_, ?_⟩
    · have e := cls_i p (by omega) o0 o1 o2 (t :: ts) [] outs cl (by simpa using hm) (by omega) (by omega)
      simp only [List.nil_append, List.length_nil, Int.natCast_zero] at e
      simp only [avs_len, hd, decide_false, cond_false, e, Option.bind_some]
    · have e := cls_s (t :: ts) p (by omega) outs.length (by omega) hm (t :: ts).length 0 (by omega) cl (by omega)
      simp only [Int.natCast_zero, Nat.add_zero] at e
      simp only [e, Option.bind_some, avs_len, hd, decide_false, cond_false]
theorem stretch {N : Nat} (hN : PT N) (bs ms ys : List Tr) (p : List Int) (outs : List Tr) (cl : List (List Int)) (o0 o1 : ByteArray) (o2 : Bool) (h1 : mu bs ≤ N) (h2 : mu bs + mu ms + mu ys ≤ 1048576) (hp : p.length + 1 ≤ 61) (hd : ∀ t ∈ bs, p.length + 1 + dep t ≤ 61) (hc : cl.length + 2 * mu bs + mu ms ≤ 10000000) (hq : ∀ q ∈ cl, q.length ≤ 61) (ho : outs.length + mu bs + mu ms + mu ys ≤ 9000000) :
    ∃ (R : List Tr) (cl' : List (List Int)), mu R ≤ mu bs + mu ms + mu ys ∧ cl'.length ≤ cl.length + 1 + 2 * mu bs + mu ms ∧ (∀ q ∈ cl', q.length ≤ 61) ∧
      Fi_merger_stretch (avs bs) (avs ms) (avs ys) (p.map iv) (cl.map rowo) o0 o1 o2 (avs outs) = some (cl'.map rowo, o0, o1, o2, avs (outs ++ R)) ∧
      Fs_l15Merger_stretch (avs bs) (avs ms) (avs ys) (p.map iv) (outs.length : Int) (cl.map rowo) = some (avs R, cl'.map rowo) := by
  have mb : bs.length ≤ mu bs ∧ szs bs ≤ mu bs := by simp [mu]
  have mm : ms.length ≤ mu ms ∧ szs ms ≤ mu ms := by simp [mu]
  have my : ys.length ≤ mu ys ∧ szs ys ≤ mu ys := by simp [mu]
  have k1s := sameL_s ms ys (by omega) (by omega) (by omega)
  have k2s := sameL_s ys bs (by omega) (by omega) (by omega)
  have k3s := sameL_s ms bs (by omega) (by omega) (by omega)
  have k1i := sameL_i ms ys (by omega) (by omega) (by omega)
  have k2i := sameL_i ys bs (by omega) (by omega) (by omega)
  have k3i := sameL_i ms bs (by omega) (by omega) (by omega)
  have c1 : capB (outs.length + ms.length) 64 = true := capB_le (by omega)
  have c2 : capB (outs.length + ys.length) 64 = true := capB_le (by omega)
  by_cases g1 : sameL ms ys = true
  · refine ⟨ms, cl, by omega, by omega, hq, ui_merger_stretch _ _ _ _ _ _ _ _ _ ?_, us_l15Merger_stretch _ _ _ _ _ _ ?_⟩
    · simp only [k1i, g1, Option.bind_some, cond_true, avs_len, c1, avs_app]
    · simp only [k1s, g1, Option.bind_some, cond_true]
  by_cases g2 : sameL ys bs = true
  · refine ⟨ms, cl, by omega, by omega, hq, ui_merger_stretch _ _ _ _ _ _ _ _ _ ?_, us_l15Merger_stretch _ _ _ _ _ _ ?_⟩
    · simp only [k1i, Bool.eq_false_iff.2 g1, k2i, g2, Option.bind_some, cond_true, cond_false, avs_len, c1, avs_app]
    · simp only [k1s, Bool.eq_false_iff.2 g1, k2s, g2, Option.bind_some, cond_true, cond_false]
  by_cases g3 : sameL ms bs = true
  · refine ⟨ys, cl, by omega, by omega, hq, ui_merger_stretch _ _ _ _ _ _ _ _ _ ?_, us_l15Merger_stretch _ _ _ _ _ _ ?_⟩
    · simp only [k1i, Bool.eq_false_iff.2 g1, k2i, Bool.eq_false_iff.2 g2, k3i, g3, Option.bind_some, cond_true, cond_false, avs_len, c2, avs_app]
    · simp only [k1s, Bool.eq_false_iff.2 g1, k2s, Bool.eq_false_iff.2 g2, k3s, g3, Option.bind_some, cond_true, cond_false]
  have f1 := Bool.eq_false_iff.2 g1
  have f2 := Bool.eq_false_iff.2 g2
  have f3 := Bool.eq_false_iff.2 g3
  by_cases one : bs.length = 1 ∧ ms.length = 1 ∧ ys.length = 1
  · obtain ⟨n1, n2, n3⟩ := one
    obtain ⟨b, rfl⟩ := one_ex n1
    obtain ⟨m, rfl⟩ := one_ex n2
    obtain ⟨y, rfl⟩ := one_ex n3
    simp only [mu_cons, mu_nil] at h1 h2 hc ho
    have hdb := hd b (by simp)
    obtain ⟨R, cl', r1, r2, r3, r4, r5⟩ := hN b m y (p ++ [(outs.length : Int)]) cl (by omega) (by omega) (by simp; omega) (by omega) hq
    have cc : capB (outs.length + 1) 64 = true := capB_le (by omega)
    have ez : AVal.agg [.str (ByteArray.mk #[]), .str (ByteArray.mk #[]), .bool false, .nils 4] = zT := rfl
    have e1 : decide (((1 : Nat) : Int) = 1) = true := rfl
    have e2 : decide ((0 : Int) < ((1 : Nat) : Int)) = true := rfl
    refine ⟨[R], cl', by simp only [mu_cons, mu_nil]; omega, by simp only [mu_cons, mu_nil]; omega, r3, ui_merger_stretch _ _ _ _ _ _ _ _ _ ?_, us_l15Merger_stretch _ _ _ _ _ _ ?_⟩
    · simp only [k1i, f1, k2i, f2, k3i, f3, Option.bind_some, cond_false, avs_len, List.length_cons, List.length_nil, Nat.zero_add, e1, e2, cond_true, avs_one, av_shape, av_0, av_1, av_2, av_3, under _ p (by omega), r4, T5, cc, bnd_eq, ez, z_len, d0_true, lt_succ', Bool.and_self, Int.toNat_natCast, blt_succ', z_get, zT_agg, zT_ble, z_set, zT_put, agg_av', avs_snoc']
    · simp only [k1s, f1, k2s, f2, k3s, f3, Option.bind_some, cond_false, avs_len, List.length_cons, List.length_nil, Nat.zero_add, e1, e2, cond_true, avs_one, av_shape, av_0, av_1, av_2, av_3, down _ p (by omega), r5, T5, agg_av']
      rfl
  obtain ⟨cl', r1, r2, r3, r4⟩ := mid_clash bs ms ys p outs cl o0 o1 o2 (by omega) hp (by omega) (by omega) hq
  refine ⟨ms, cl', by omega, by omega, r2, ui_merger_stretch _ _ _ _ _ _ _ _ _ ?_, us_l15Merger_stretch _ _ _ _ _ _ ?_⟩
  · simp only [k1i, f1, k2i, f2, k3i, f3, Option.bind_some, cond_false]
    by_cases n1 : bs.length = 1
    · by_cases n2 : ms.length = 1
      · have n3 : ¬ ys.length = 1 := fun h => one ⟨n1, n2, h⟩
        have d1 : decide (((avs bs).length : Int) = 1) = true := by rw [avs_len, n1]; rfl
        have d2 : decide (((avs ms).length : Int) = 1) = true := by rw [avs_len, n2]; rfl
        have d3 : decide (((avs ys).length : Int) = 1) = false := by rw [avs_len]; simp; omega
        simp only [d1, d2, d3, cond_true, cond_false]; exact r3
      · have d1 : decide (((avs bs).length : Int) = 1) = true := by rw [avs_len, n1]; rfl
        have d2 : decide (((avs ms).length : Int) = 1) = false := by rw [avs_len]; simp; omega
        simp only [d1, d2, cond_true, cond_false]; exact r3
    · have d1 : decide (((avs bs).length : Int) = 1) = false := by rw [avs_len]; simp; omega
      simp only [d1, cond_false]; exact r3
  · simp only [k1s, f1, k2s, f2, k3s, f3, Option.bind_some, cond_false]
    by_cases n1 : bs.length = 1
    · by_cases n2 : ms.length = 1
      · have n3 : ¬ ys.length = 1 := fun h => one ⟨n1, n2, h⟩
        have d1 : decide (((avs bs).length : Int) = 1) = true := by rw [avs_len, n1]; rfl
        have d2 : decide (((avs ms).length : Int) = 1) = true := by rw [avs_len, n2]; rfl
        have d3 : decide (((avs ys).length : Int) = 1) = false := by rw [avs_len]; simp; omega
        simp only [d1, d2, d3, cond_true, cond_false]; exact r4
      · have d1 : decide (((avs bs).length : Int) = 1) = true := by rw [avs_len, n1]; rfl
        have d2 : decide (((avs ms).length : Int) = 1) = false := by rw [avs_len]; simp; omega
        simp only [d1, d2, cond_true, cond_false]; exact r4
    · have d1 : decide (((avs bs).length : Int) = 1) = false := by rw [avs_len]; simp; omega
      simp only [d1, cond_false]; exact r4
end Go.Proofs.Ytnbpmjfemeeecaa
