/- Scopes of a term: what both sides walk, told as one function; where the tree is not too large. -/
import Derived.Test.YtmbnloccmnclnaaSk
import Derived.Test.YtmbnloccmnclnaaTt
namespace Go.Proofs.Ytmbnloccmnclnaa
open Go.VK AVal
open Tr
structure ScS where
  n : Int
  es : List SEdgeD
  ds : List SpotD
  rs : List SpotD
  dp : List (List Int)
  rp : List (List Int)
mutual
def scT : Tr → List Int → Int → ScS → ScS
  | .mk n t l ks, p, sc, s =>
    bif l then (bif decide (n = cId) then ⟨s.n, s.es, s.ds, s.rs ++ [(sc, t)], s.dp, s.rp ++ [p]⟩ else s)
    else scL (bdQ n) p sc (bif bdQ n then s.n else sc) 0 ks (bif bdQ n then ⟨s.n + 1, s.es ++ [(s.n, sc, 1)], s.ds, s.rs, s.dp, s.rp⟩ else s)
def scL : Bool → List Int → Int → Int → Nat → List Tr → ScS → ScS
  | _, _, _, _, _, [], s => s
  | b, p, sc, inn, i, k :: ks, s => scL b p sc inn (i + 1) ks
      (bif decide (i = 0) && b then ⟨s.n, s.es, s.ds ++ [(inn, k.text)], s.rs, s.dp ++ [p ++ [(i : Int)]], s.rp⟩ else scT k (p ++ [(i : Int)]) (bif b && ks.isEmpty then inn else sc) s)
end
def okS (B : Nat) (s : ScS) : Prop := 0 ≤ s.n ∧ s.n ≤ B ∧ s.es.length ≤ B ∧ s.ds.length ≤ B ∧ s.rs.length ≤ B ∧ s.dp.length ≤ B ∧ s.rp.length ≤ B
theorem okS.mono {B C : Nat} {s : ScS} (h : okS B s) (hc : B ≤ C) : okS C s := by
  obtain ⟨h1, h2, h3, h4, h5, h6, h7⟩ := h
  exact ⟨h1, by omega, by omega, by omega, by omega, by omega, by omega⟩
theorem cId_size : cId.size = 2 := rfl
theorem bd_size {n : ByteArray} (h : bdQ n = true) : n.size = 3 := by
  simp only [bdQ, Bool.or_eq_true, decide_eq_true_eq] at h
  rcases h with rfl | rfl <;> rfl
mutual
theorem scT_ok : ∀ (t : Tr) (p : List Int) (sc : Int) (s : ScS) (B : Nat), okS B s → okS (B + sz t) (scT t p sc s)
  | .mk n t l ks, p, sc, s, B, h => by
    simp only [scT, sz]
    cases l with
    | true =>
      simp only [cond_true]
      by_cases g : n = cId
      · subst g
        have := cId_size
        obtain ⟨h1, h2, h3, h4, h5, h6, h7⟩ := h
        simp only [decide_true, cond_true]
        exact ⟨h1, by dsimp only; omega, by dsimp only; omega, by dsimp only; omega, by simp only [List.length_append, List.length_cons, List.length_nil]; omega, by dsimp only; omega, by simp only [List.length_append, List.length_cons, List.length_nil]; omega⟩
      · simp only [g, decide_false, cond_false]
        exact h.mono (by omega)
    | false =>
      simp only [cond_false]
      cases hb : bdQ n with
      | false =>
        simp only [cond_false]
        exact (scL_ok false p sc sc 0 ks s B h).mono (by omega)
      | true =>
        have := bd_size hb
        simp only [cond_true]
        obtain ⟨h1, h2, h3, h4, h5, h6, h7⟩ := h
        refine (scL_ok true p sc s.n 0 ks _ (B + 1) ?_).mono (by omega)
        exact ⟨by dsimp only; omega, by dsimp only; omega, by simp only [List.length_append, List.length_cons, List.length_nil]; omega, by dsimp only; omega, by dsimp only; omega, by dsimp only; omega, by dsimp only; omega⟩
theorem scL_ok : ∀ (b : Bool) (p : List Int) (sc inn : Int) (i : Nat) (ks : List Tr) (s : ScS) (B : Nat), okS B s → okS (B + (ks.length + szs ks)) (scL b p sc inn i ks s)
  | b, p, sc, inn, i, [], s, B, h => by simp only [scL]; exact h.mono (by omega)
  | b, p, sc, inn, i, k :: ks, s, B, h => by
    simp only [scL, szs, List.length_cons]
    cases hc : (decide (i = 0) && b) with
    | true =>
      simp only [cond_true]
      obtain ⟨h1, h2, h3, h4, h5, h6, h7⟩ := h
      refine (scL_ok b p sc inn (i + 1) ks _ (B + 1) ?_).mono (by omega)
      exact ⟨h1, by dsimp only; omega, by dsimp only; omega, by simp only [List.length_append, List.length_cons, List.length_nil]; omega, by dsimp only; omega, by simp only [List.length_append, List.length_cons, List.length_nil]; omega, by dsimp only; omega⟩
    | false =>
      simp only [cond_false]
      exact (scL_ok b p sc inn (i + 1) ks _ (B + sz k) (scT_ok k _ _ s B h)).mono (by omega)
end
/-- paths: as many as names, none too long -/
def okP (B : Nat) (s : ScS) : Prop := s.dp.length = s.ds.length ∧ s.rp.length = s.rs.length ∧ (∀ p ∈ s.dp, p.length ≤ B) ∧ ∀ p ∈ s.rp, p.length ≤ B
mutual
theorem scT_okP : ∀ (t : Tr) (p : List Int) (sc : Int) (s : ScS) (B : Nat), okP B s → p.length + sz t ≤ B → okP B (scT t p sc s)
  | .mk n t l ks, p, sc, s, B, h, hp => by
    simp only [scT]
    simp only [sz] at hp
    cases l with
    | true =>
      simp only [cond_true]
      cases decide (n = cId) with
      | false => exact h
      | true =>
        obtain ⟨h1, h2, h3, h4⟩ := h
        simp only [cond_true]
        refine ⟨h1, by simp only [List.length_append, h2, List.length_cons, List.length_nil], h3, fun q hq => ?_⟩
        rcases List.mem_append.1 hq with hq | hq
        · exact h4 q hq
        · rw [List.mem_singleton.1 hq]; omega
    | false =>
      simp only [cond_false]
      refine scL_okP _ p sc _ 0 ks _ B ?_ (by omega)
      cases bdQ n <;> exact h
theorem scL_okP : ∀ (b : Bool) (p : List Int) (sc inn : Int) (i : Nat) (ks : List Tr) (s : ScS) (B : Nat), okP B s → p.length + (ks.length + szs ks) ≤ B → okP B (scL b p sc inn i ks s)
  | b, p, sc, inn, i, [], s, B, h, hp => by simp only [scL]; exact h
  | b, p, sc, inn, i, k :: ks, s, B, h, hp => by
    simp only [scL]
    simp only [szs, List.length_cons] at hp
    refine scL_okP b p sc inn (i + 1) ks _ B ?_ (by omega)
    cases decide (i = 0) && b with
    | true =>
      obtain ⟨h1, h2, h3, h4⟩ := h
      simp only [cond_true]
      refine ⟨by simp only [List.length_append, h1, List.length_cons, List.length_nil], h2, fun q hq => ?_, h4⟩
      rcases List.mem_append.1 hq with hq | hq
      · exact h3 q hq
      · rw [List.mem_singleton.1 hq]; simp only [List.length_append, List.length_cons, List.length_nil]; omega
    | false =>
      simp only [cond_false]
      exact scT_okP k _ _ s B h (by simp only [List.length_append, List.length_cons, List.length_nil]; omega)
end
abbrev ScO := Int × List AVal × List AVal × List AVal × List AVal × List AVal
def outS (f : List Int → AVal) (s : ScS) : ScO := (s.n, s.es.map avSEdge, s.ds.map avSpot, s.rs.map avSpot, s.dp.map f, s.rp.map f)
theorem av_edge (a b : Int) : AVal.agg [.int .i64 a, .int .i64 b, .int .i64 1] = avSEdge (a, b, 1) := rfl
theorem av_spot (a : Int) (t : ByteArray) : AVal.agg [.int .i64 a, .str t] = avSpot (a, t) := rfl
theorem av_rowo (p : List Int) : AVal.own 1 (p.map iv) = rowo p := rfl
theorem av_rowv (p : List Int) : AVal.ro false 1 (p.map iv) = rowv p := rfl
theorem map_one {α : Type} (f : α → AVal) (xs : List α) (x : α) : xs.map f ++ [f x] = (xs ++ [x]).map f := by simp
theorem iv_one (p : List Int) (i : Int) : p.map iv ++ [.int .i64 i] = (p ++ [i]).map iv := by simp [iv]
theorem noRo_rowo (p : List Int) : noRo (rowo p) = true := by simp only [rowo, noRo, noRoL_map noRo_iv]
theorem capL {n B b : Nat} (h : n ≤ B) (hB : B ≤ 3000000) (hb : b ≤ 24) : capB (n + 1) b = true := capB_le (by
  have : (n + 1) * b ≤ 3000001 * 24 := Nat.mul_le_mul (by omega) hb
  omega)
theorem av_shape' (k : Tr) : shapes [.str, .str, .bool, .slice 4] ((av k).cells.take 4) = true := by cases k; rfl
theorem dself (n : Nat) : decide (((n : Nat) : Int) = (n : Int)) = true := by simp
/-! The program -/
def PI (t : Tr) : Prop := ∀ (p : List Int) (sc : Int) (s : ScS) (B : Nat), okS B s → B + sz t ≤ 3000000 → p.length + sz t ≤ 2000000 →
  Fi_scoper_walk t.name t.text t.leaf (avs t.kids) (p.map iv) sc s.n (s.es.map avSEdge) (s.ds.map avSpot) (s.rs.map avSpot) (s.dp.map rowo) (s.rp.map rowo) = some (outS rowo (scT t p sc s))
theorem in_scope (n t : ByteArray) (pre ks : List Tr) (k : Tr) (h : (pre ++ k :: ks).length ≤ 3000000) : Fi_inScope n t false (avs (pre ++ k :: ks)) (pre.length : Int) = some (bdQ n && ks.isEmpty) := by
  refine ui_inScope _ _ _ _ _ ?_
  have hw : IntKind.wrap .i64 (((pre ++ k :: ks).length : Int) - 1) = ((pre ++ k :: ks).length : Int) - 1 := wrap64 (by omega) (by omega)
  simp only [bd_impl, Bool.not_false, Bool.true_and, Option.bind_some, avs_len, hw]
  cases bdQ n with
  | false => rfl
  | true =>
    simp only [cond_true, Bool.true_and, Option.some.injEq]
    cases ks with
    | nil => simp
    | cons q ks => simp only [List.isEmpty_cons, List.length_append, List.length_cons]; rw [decide_eq_false_iff_not]; omega
theorem wl_impl (n t : ByteArray) (p : List Int) (sc inn : Int) : ∀ (ks pre : List Tr) (s : ScS) (B : Nat), (∀ k ∈ ks, PI k) → okS B s → B + (ks.length + szs ks) ≤ 3000000 → p.length + (ks.length + szs ks) ≤ 2000000 → (pre ++ ks).length ≤ 3000000 →
    Li_scoper_walk_0 (p.map iv) sc inn (avs (pre ++ ks)) ((pre ++ ks).length : Int) (pre.length : Int) s.n (s.es.map avSEdge) (s.ds.map avSpot) (s.rs.map avSpot) (s.dp.map rowo) (s.rp.map rowo) n t false (avs (pre ++ ks)) = some (outS rowo (scL (bdQ n) p sc inn pre.length ks s))
  | [], pre, s, B, H, hs, hB, hp, hl => by
    refine li_scoper_walk_0 _ _ _ _ _ _ _ _ _ _ _ _ _ _ _ _ ?_
    simp only [List.append_nil, lt_self, cond_false, scL, outS]
  | k :: ks, pre, s, B, H, hs, hB, hp, hl => by
    simp only [szs, List.length_cons] at hB hp
    have hm := mid_lt pre ks k
    have hi : pre.length < 9000000000000000000 := by omega
    have key : ∀ (s' : ScS) (C : Nat), okS C s' → C + (ks.length + szs ks) ≤ 3000000 → Li_scoper_walk_0 (p.map iv) sc inn (avs (pre ++ k :: ks)) ((pre ++ k :: ks).length : Int) ((pre.length + 1 : Nat) : Int) s'.n (s'.es.map avSEdge) (s'.ds.map avSpot) (s'.rs.map avSpot) (s'.dp.map rowo) (s'.rp.map rowo) n t false (avs (pre ++ k :: ks)) = some (outS rowo (scL (bdQ n) p sc inn (pre.length + 1) ks s')) := by
      intro s' C hC hCB
      have e := wl_impl n t p sc inn ks (pre ++ [k]) s' C (fun q hq => H q (List.mem_cons_of_mem _ hq)) hC hCB (by omega) (by simpa using hl)
      simpa only [List.append_assoc, List.cons_append, List.nil_append, show (pre ++ [k]).length = pre.length + 1 by simp] using e
    obtain ⟨h1, h2, h3, h4, h5, h6, h7⟩ := id hs
    have c1 : capB ((p.map iv).length + 1) 8 = true := by rw [List.length_map]; exact capL (B := 2000000) (by omega) (by omega) (by omega)
    refine li_scoper_walk_0 _ _ _ _ _ _ _ _ _ _ _ _ _ _ _ _ ?_
    have hd0 : decide (((pre.length : Nat) : Int) = 0) = decide (pre.length = 0) := by congr 1; apply propext; omega
    have walk : ∀ sc', (Fi_scoper_walk k.name k.text k.leaf (avs k.kids) ((p ++ [(pre.length : Int)]).map iv) sc' s.n (s.es.map avSEdge) (s.ds.map avSpot) (s.rs.map avSpot) (s.dp.map rowo) (s.rp.map rowo)) = some (outS rowo (scT k (p ++ [(pre.length : Int)]) sc' s)) := fun sc' =>
      H k (List.mem_cons_self ..) _ sc' s B hs (by omega) (by simp only [List.length_append, List.length_cons, List.length_nil]; omega)
    simp only [avs_len, dlt_true hm, d0_true, Int.le_refl, decide_true, Bool.and_self, Bool.or_true, Bool.true_and, cond_true, Int.toNat_natCast, avs_get, av_shape', List.take_length, List.drop_zero, c1, bnd_eq, iv_one, hd0, bd_impl, Bool.not_false, Option.bind_some, in_scope n t pre ks k hl, av_0, av_1, av_2, av_3, asRoL_map asRo_iv, walk, wrap_i hi, av_spot, map_one, av_rowo, scL]
    have cd : capB (s.ds.length + 1) 24 = true := capL h4 (by omega) (by omega)
    have cp : capB (s.dp.length + 1) 24 = true := capL h6 (by omega) (by omega)
    have cq : capB (0 + (p ++ [(pre.length : Int)]).length) 8 = true := by
      simp only [List.length_append, List.length_cons, List.length_nil, Nat.zero_add]; exact capL (B := 2000000) (by omega) (by omega) (by omega)
    have fin : ∀ sc', _ := fun sc' => key (scT k (p ++ [(pre.length : Int)]) sc' s) (B + sz k) (scT_ok k _ _ s B hs) (by omega)
    have dec := key ⟨s.n, s.es, s.ds ++ [(inn, k.text)], s.rs, s.dp ++ [p ++ [(pre.length : Int)]], s.rp⟩ (B + 1) ⟨h1, by dsimp only; omega, by dsimp only; omega, by simp only [List.length_append, List.length_cons, List.length_nil]; omega, by dsimp only; omega, by simp only [List.length_append, List.length_cons, List.length_nil]; omega, by dsimp only; omega⟩ (by omega)
    dsimp only at dec
    simp only [outS] at fin dec ⊢
    simp only [List.length_map, cd, cp, cq, noRoL_map noRo_SEdge, noRoL_map noRo_Spot, noRoL_map noRo_rowo, Bool.and_self, cond_true, fin, dec]
    cases decide (pre.length = 0) <;> cases bdQ n <;> cases ks.isEmpty <;> rfl
theorem pi_step (n t : ByteArray) (l : Bool) (ks : List Tr) (H : ∀ k ∈ ks, PI k) : PI (.mk n t l ks) := by
  intro p sc s B hs hB hp
  obtain ⟨h1, h2, h3, h4, h5, h6, h7⟩ := id hs
  simp only [sz] at hB hp
  simp only [Tr.name, Tr.text, Tr.leaf, Tr.kids, scT]
  refine ui_scoper_walk _ _ _ _ _ _ _ _ _ _ _ _ ?_
  cases l with
  | true =>
    have cr : capB (s.rs.length + 1) 24 = true := capL h5 (by omega) (by omega)
    have cp : capB (s.rp.length + 1) 24 = true := capL h7 (by omega) (by omega)
    have cq : capB (0 + p.length) 8 = true := capB_le (by omega)
    simp only [cond_true, List.length_map, cr, cp, cq, av_spot, map_one, av_rowo]
    rw [show (ByteArray.mk #[73, 100]) = cId from rfl]
    cases decide (n = cId) <;> rfl
  | false =>
    have ce : capB (s.es.length + 1) 24 = true := capL h3 (by omega) (by omega)
    have hw : IntKind.wrap .i64 (s.n + 1) = s.n + 1 := wrap64 (by omega) (by omega)
    simp only [cond_false, bd_impl, Bool.not_false, Bool.true_and, Option.bind_some, List.length_map, ce, cond_true, hw, av_edge, map_one, avs_len]
    cases hb : bdQ n with
    | false =>
      have e := wl_impl n t p sc sc ks [] s B H hs (by omega) (by omega) (by simp only [List.nil_append]; omega)
      simp only [List.nil_append, List.length_nil, Int.natCast_zero, hb] at e
      simp only [cond_false, e, Option.bind_some]
    | true =>
      have := bd_size hb
      have e := wl_impl n t p sc s.n ks [] ⟨s.n + 1, s.es ++ [(s.n, sc, 1)], s.ds, s.rs, s.dp, s.rp⟩ (B + 1) H ⟨by dsimp only; omega, by dsimp only; omega, by simp only [List.length_append, List.length_cons, List.length_nil]; omega, by dsimp only; omega, by dsimp only; omega, by dsimp only; omega, by dsimp only; omega⟩ (by omega) (by omega) (by simp only [List.nil_append]; omega)
      simp only [List.nil_append, List.length_nil, Int.natCast_zero, hb] at e
      simp only [cond_true, e, Option.bind_some]
mutual
theorem wk_impl : ∀ t : Tr, PI t
  | .mk n t l ks => pi_step n t l ks (wks_impl ks)
theorem wks_impl : ∀ ks : List Tr, ∀ k ∈ ks, PI k
  | [], k, h => by simp at h
  | q :: ks, k, h => by
    rcases List.mem_cons.1 h with h | h
    · rw [h]; exact wk_impl q
    · exact wks_impl ks k h
end
/-! The reference -/
def PS (t : Tr) : Prop := ∀ (p : List Int) (sc : Int) (s : ScS) (B : Nat), trmQ t = true → okS B s → B + sz t ≤ 3000000 → p.length + sz t ≤ 2000000 →
  Fs_l12Scoper_walk t.name t.text t.leaf (avs t.kids) (p.map iv) sc s.n (s.es.map avSEdge) (s.ds.map avSpot) (s.rs.map avSpot) (s.dp.map rowv) (s.rp.map rowv) = some (outS rowv (scT t p sc s))
theorem down (p : List Int) (i : Int) (h : p.length ≤ 2000000) : Fs_l12Down (p.map iv) i = some ((p ++ [i]).map iv) := by
  refine us_l12Down _ _ ?_
  have c1 : capB (0 + p.length) 8 = true := capB_le (by omega)
  have c2 : capB (p.length + 1) 8 = true := capB_le (by omega)
  simp only [List.length_map, c1, c2, cond_true, iv_one, asRoL_map asRo_iv]
theorem wl_spec (n t : ByteArray) (p : List Int) (sc inn : Int) : ∀ (ks pre : List Tr) (s : ScS) (B : Nat), (∀ k ∈ ks, PS k) → trmF false ks = true → okS B s → B + (ks.length + szs ks) ≤ 3000000 → p.length + (ks.length + szs ks) ≤ 2000000 → (pre ++ ks).length ≤ 3000000 →
    Ls_l12Scoper_walk_0 (p.map iv) sc (pre.length : Int) s.n (s.es.map avSEdge) (s.ds.map avSpot) (s.rs.map avSpot) (s.dp.map rowv) (s.rp.map rowv) n t false (avs (pre ++ ks)) = some (outS rowv (scL false p sc inn pre.length ks s))
  | [], pre, s, B, H, hq, hs, hB, hp, hl => by
    refine ls_l12Scoper_walk_0 _ _ _ _ _ _ _ _ _ _ _ _ _ ?_
    simp only [List.append_nil, avs_len, lt_self, cond_false, scL, outS]
  | k :: ks, pre, s, B, H, hq, hs, hB, hp, hl => by
    simp only [szs, List.length_cons] at hB hp
    simp only [trmF, cond_false, Bool.and_eq_true] at hq
    have hm := mid_lt pre ks k
    have hi : pre.length < 9000000000000000000 := by omega
    have key : ∀ (s' : ScS) (C : Nat), okS C s' → C + (ks.length + szs ks) ≤ 3000000 → Ls_l12Scoper_walk_0 (p.map iv) sc ((pre.length + 1 : Nat) : Int) s'.n (s'.es.map avSEdge) (s'.ds.map avSpot) (s'.rs.map avSpot) (s'.dp.map rowv) (s'.rp.map rowv) n t false (avs (pre ++ k :: ks)) = some (outS rowv (scL false p sc inn (pre.length + 1) ks s')) := by
      intro s' C hC hCB
      have e := wl_spec n t p sc inn ks (pre ++ [k]) s' C (fun q hq => H q (List.mem_cons_of_mem _ hq)) hq.2 hC hCB (by omega) (by simpa using hl)
      simpa only [List.append_assoc, List.cons_append, List.nil_append, show (pre ++ [k]).length = pre.length + 1 by simp] using e
    refine ls_l12Scoper_walk_0 _ _ _ _ _ _ _ _ _ _ _ _ _ ?_
    have walk := H k (List.mem_cons_self ..) (p ++ [(pre.length : Int)]) sc s B hq.1 hs (by omega) (by simp only [List.length_append, List.length_cons, List.length_nil]; omega)
    have fin := key (scT k (p ++ [(pre.length : Int)]) sc s) (B + sz k) (scT_ok k _ _ s B hs) (by omega)
    simp only [avs_len, dlt_true hm, d0_true, Bool.and_self, cond_true, Int.toNat_natCast, avs_get, av_shape, av_0, av_1, av_2, av_3, down p _ (by omega), walk, Option.bind_some, wrap_i hi, scL]
    simp only [outS] at fin ⊢
    rw [fin]
    simp only [Bool.and_false, Bool.false_and, cond_false]
theorem sc2 (p : List Int) (sc inn : Int) (a b : Tr) (s : ScS) : scL true p sc inn 0 [a, b] s = scT b (p ++ [(1 : Int)]) inn ⟨s.n, s.es, s.ds ++ [(inn, a.text)], s.rs, s.dp ++ [p ++ [(0 : Int)]], s.rp⟩ := by
  simp [scL]
theorem sc3 (p : List Int) (sc inn : Int) (a b c : Tr) (s : ScS) : scL true p sc inn 0 [a, b, c] s = scT c (p ++ [(2 : Int)]) inn (scT b (p ++ [(1 : Int)]) sc ⟨s.n, s.es, s.ds ++ [(inn, a.text)], s.rs, s.dp ++ [p ++ [(0 : Int)]], s.rp⟩) := by
  simp [scL]
theorem av_p1 (k : Tr) : CT.shape .str ((av k).cell 1) = true := by cases k; rfl
theorem ps_step (n t : ByteArray) (l : Bool) (ks : List Tr) (H : ∀ k ∈ ks, PS k) : PS (.mk n t l ks) := by
  intro p sc s B hq hs hB hp
  obtain ⟨h1, h2, h3, h4, h5, h6, h7⟩ := id hs
  simp only [sz] at hB hp
  simp only [Tr.name, Tr.text, Tr.leaf, Tr.kids, scT]
  refine us_l12Scoper_walk _ _ _ _ _ _ _ _ _ _ _ _ ?_
  cases l with
  | true =>
    have cr : capB (s.rs.length + 1) 24 = true := capL h5 (by omega) (by omega)
    have cp : capB (s.rp.length + 1) 24 = true := capL h7 (by omega) (by omega)
    simp only [cond_true, List.length_map, cr, cp, av_spot, map_one, av_rowv]
    rw [show (ByteArray.mk #[73, 100]) = cId from rfl]
    cases decide (n = cId) <;> rfl
  | false =>
    simp only [trmQ, cond_false, Bool.and_eq_true, Bool.not_eq_true', decide_eq_false_iff_not, decide_eq_true_eq] at hq
    obtain ⟨q1, q2, q3⟩ := hq
    have ce : capB (s.es.length + 1) 24 = true := capL h3 (by omega) (by omega)
    have cd : capB (s.ds.length + 1) 24 = true := capL h4 (by omega) (by omega)
    have cp : capB (s.dp.length + 1) 24 = true := capL h6 (by omega) (by omega)
    have hw : IntKind.wrap .i64 (s.n + 1) = s.n + 1 := wrap64 (by omega) (by omega)
    by_cases g1 : n = cLam
    · subst g1
      have ar : arQ cLam = 2 := by decide
      rw [ar] at q2
      obtain ⟨a, b, rfl⟩ : ∃ a b, ks = [a, b] := by
        match ks, q2 with
        | [a, b], _ => exact ⟨a, b, rfl⟩
        | [], h => simp at h
        | [_], h => simp at h
        | _ :: _ :: _ :: _, h => simp at h; omega
      have hb : bdQ cLam = true := by decide
      simp only [hb, trmF, cond_true, cond_false, Bool.and_eq_true] at q3
      simp only [szs, List.length_cons, List.length_nil] at hB hp
      have sz3 : cLam.size = 3 := rfl
      have hn : decide (cLam = cLet) = false := by decide
      have w := H b (by simp) (p ++ [(1 : Int)]) s.n ⟨s.n + 1, s.es ++ [(s.n, sc, 1)], s.ds ++ [(s.n, a.text)], s.rs, s.dp ++ [p ++ [(0 : Int)]], s.rp⟩ (B + 1) q3.2.1
        ⟨by dsimp only; omega, by dsimp only; omega, by simp only [List.length_append, List.length_cons, List.length_nil]; omega, by simp only [List.length_append, List.length_cons, List.length_nil]; omega, by dsimp only; omega, by simp only [List.length_append, List.length_cons, List.length_nil]; omega, by dsimp only; omega⟩ (by omega) (by simp only [List.length_append, List.length_cons, List.length_nil]; omega)
      have v0 : (avs [a, b]).getD 0 .und = av a := rfl
      have v1 : (avs [a, b]).getD 1 .und = av b := rfl
      have ew : IntKind.wrap .i64 ((2 : Int) - 1) = 1 := wrap64 (by omega) (by omega)
      have l2 : (([a, b] : List Tr).length : Int) = 2 := rfl
      rw [show (ByteArray.mk #[76, 97, 109]) = cLam from rfl, show (ByteArray.mk #[76, 101, 116]) = cLet from rfl]
      simp only [decide_true, hn, hb, Bool.not_true, Bool.not_false, cond_true, cond_false, List.length_map, ce, cd, cp, avs_len, l2, v0, av_p1, av_0, av_1, av_2, av_3, av_spot, av_edge, map_one, bnd_eq, down p _ (by omega), Option.bind_some, ew, show decide ((0 : Int) < 2) = true from rfl, show decide ((0 : Int) ≤ 1) = true from rfl, show decide ((1 : Int) < 2) = true from rfl, Bool.and_self, show (1 : Int).toNat = 1 from rfl, v1, av_shape, hw, av_rowv, sc2]
      simp only [w, Option.bind_some]
    · by_cases g2 : n = cLet
      · subst g2
        have ar : arQ cLet = 3 := by decide
        rw [ar] at q2
        obtain ⟨a, b, c, rfl⟩ : ∃ a b c, ks = [a, b, c] := by
          match ks, q2 with
          | [a, b, c], _ => exact ⟨a, b, c, rfl⟩
          | [], h => simp at h
          | [_], h => simp at h
          | [_, _], h => simp at h
          | _ :: _ :: _ :: _ :: _, h => simp at h; omega
        have hb : bdQ cLet = true := by decide
        simp only [hb, trmF, cond_true, cond_false, Bool.and_eq_true] at q3
        simp only [szs, List.length_cons, List.length_nil] at hB hp
        have sz3 : cLet.size = 3 := rfl
        have hn : decide (cLet = cLam) = false := by decide
        have hs1 : okS (B + 1) ⟨s.n + 1, s.es ++ [(s.n, sc, 1)], s.ds ++ [(s.n, a.text)], s.rs, s.dp ++ [p ++ [(0 : Int)]], s.rp⟩ :=
          ⟨by dsimp only; omega, by dsimp only; omega, by simp only [List.length_append, List.length_cons, List.length_nil]; omega, by simp only [List.length_append, List.length_cons, List.length_nil]; omega, by dsimp only; omega, by simp only [List.length_append, List.length_cons, List.length_nil]; omega, by dsimp only; omega⟩
        have w := H b (by simp) (p ++ [(1 : Int)]) sc _ (B + 1) q3.2.1 hs1 (by omega) (by simp only [List.length_append, List.length_cons, List.length_nil]; omega)
        have w2 := H c (by simp) (p ++ [(2 : Int)]) s.n (scT b (p ++ [(1 : Int)]) sc ⟨s.n + 1, s.es ++ [(s.n, sc, 1)], s.ds ++ [(s.n, a.text)], s.rs, s.dp ++ [p ++ [(0 : Int)]], s.rp⟩) (B + 1 + sz b) q3.2.2.1 (scT_ok b _ _ _ _ hs1) (by omega) (by simp only [List.length_append, List.length_cons, List.length_nil]; omega)
        have v0 : (avs [a, b, c]).getD 0 .und = av a := rfl
        have v1 : (avs [a, b, c]).getD 1 .und = av b := rfl
        have v2 : (avs [a, b, c]).getD 2 .und = av c := rfl
        have ew : IntKind.wrap .i64 ((3 : Int) - 1) = 2 := wrap64 (by omega) (by omega)
        have l2 : (([a, b, c] : List Tr).length : Int) = 3 := rfl
        rw [show (ByteArray.mk #[76, 97, 109]) = cLam from rfl, show (ByteArray.mk #[76, 101, 116]) = cLet from rfl]
        simp only [decide_true, hn, hb, Bool.not_true, Bool.not_false, cond_true, cond_false, List.length_map, ce, cd, cp, avs_len, l2, v0, av_p1, av_0, av_1, av_2, av_3, av_spot, av_edge, map_one, bnd_eq, down p _ (by omega), Option.bind_some, ew, show decide ((0 : Int) < 3) = true from rfl, show decide ((1 : Int) < 3) = true from rfl, show decide ((0 : Int) ≤ 2) = true from rfl, show decide ((2 : Int) < 3) = true from rfl, Bool.and_self, show (2 : Int).toNat = 2 from rfl, v1, v2, av_shape, hw, av_rowv, sc3]
        simp only [w, Option.bind_some]
        simp only [outS] at w2 ⊢
        simp only [w2, Option.bind_some]
      · have hb : bdQ n = false := by simp [bdQ, g1, g2]
        have e := wl_spec n t p sc sc ks [] s B H (by rw [hb] at q3; exact q3) hs (by omega) (by omega) (by simp only [List.nil_append]; omega)
        simp only [List.nil_append, List.length_nil, Int.natCast_zero] at e
        rw [show (ByteArray.mk #[76, 97, 109]) = cLam from rfl, show (ByteArray.mk #[76, 101, 116]) = cLet from rfl]
        simp only [g1, g2, hb, decide_false, Bool.not_false, cond_true, cond_false, e, Option.bind_some]
mutual
theorem wk_spec : ∀ t : Tr, PS t
  | .mk n t l ks => ps_step n t l ks (wks_spec ks)
theorem wks_spec : ∀ ks : List Tr, ∀ k ∈ ks, PS k
  | [], k, h => by simp at h
  | q :: ks, k, h => by
    rcases List.mem_cons.1 h with h | h
    · rw [h]; exact wk_spec q
    · exact wks_spec ks k h
end
end Go.Proofs.Ytmbnloccmnclnaa
