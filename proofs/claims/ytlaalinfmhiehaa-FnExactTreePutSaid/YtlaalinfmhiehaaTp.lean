/- The law TreePut answers true at all plain arguments; no condition. -/
import Derived.Test.YtlaalinfmhiehaaTv
import Derived.Test.YtlaalinfmhiehaaTTreePut
namespace Go.Proofs.Ytlaalinfmhiehaa
open Go.VK AVal Tr
def putT : Tr → List Int → Tr → Tr
  | _, [], u => u
  | .mk n x l ks, p :: ps, u => .mk n x l (ks.set p.toNat (putT (ks.getD p.toNat noTr) ps u))
theorem name_mk (n x : ByteArray) (l : Bool) (ks : List Tr) : (Tr.mk n x l ks).name = n := rfl
theorem text_mk (n x : ByteArray) (l : Bool) (ks : List Tr) : (Tr.mk n x l ks).text = x := rfl
theorem leaf_mk (n x : ByteArray) (l : Bool) (ks : List Tr) : (Tr.mk n x l ks).leaf = l := rfl
theorem kids_mk (n x : ByteArray) (l : Bool) (ks : List Tr) : (Tr.mk n x l ks).kids = ks := rfl
theorem szs_set : ∀ (ks : List Tr) (i : Nat) (h : i < ks.length) (x : Tr), szs (ks.set i x) + sz (ks[i]'h) = szs ks + sz x
  | k :: ks, 0, h, x => by simp only [List.set_cons_zero, szs, List.getElem_cons_zero]; omega
  | k :: ks, i + 1, h, x => by
    have := szs_set ks i (by simpa using h) x
    simp only [List.set_cons_succ, szs, List.getElem_cons_succ]; omega
theorem putT_sz : ∀ (ps : List Int) (t u v : Tr), atT t ps = some v → sz (putT t ps u) ≤ sz t + sz u
  | [], t, u, v, h => by simp only [putT]; omega
  | p :: ps, .mk n x l ks, u, v, h => by
    simp only [atT] at h
    split at h
    · rename_i hp
      simp only [Tr.kids] at hp h
      have ih := putT_sz ps _ u v h
      have e := szs_set ks p.toNat hp.2 (putT (ks.getD p.toNat noTr) ps u)
      have eg : ks.getD p.toNat noTr = ks[p.toNat]'hp.2 := by simp [List.getD_eq_getElem?_getD, hp.2]
      simp only [eg] at e
      simp only [putT, sz, List.length_set, eg]
      omega
    · cases h
theorem avs_set (ks : List Tr) (i : Nat) (x : Tr) : (avs ks).set i (av x) = avs (ks.set i x) := by simp only [avs_map, List.map_set]
theorem ows_set (ks : List Tr) (i : Nat) (x : Tr) : (ows ks).set i (ow x) = ows (ks.set i x) := by simp only [ows_map, List.map_set]
theorem ows_idx {ks : List Tr} {i : Nat} (h : i < ks.length) : (ows ks).getD i .und = ow ks[i] := by rw [ows_map]; exact getD_map ow h
theorem sPutS : ∀ (ps : List Int) (t u v : Tr), ps.length ≤ 1048576 → sz t ≤ 1048576 → atT t ps = some v →
    Fs_l01Put t.name t.text t.leaf (avs t.kids) (ps.map iv) u.name u.text u.leaf (avs u.kids) = some ((putT t ps u).name, (putT t ps u).text, (putT t ps u).leaf, avs (putT t ps u).kids)
  | [], t, u, v, hl, hs, h => by
    refine us_l01Put _ _ _ _ _ _ _ _ _ ?_
    simp [putT]
  | p :: ps, .mk n x l ks, u, v, hl, hs, h => by
    have hk := kids_sz (.mk n x l ks)
    simp only [kids_mk] at hk
    simp only [atT] at h
    split at h
    · rename_i g
      simp only [kids_mk] at g h
      obtain ⟨d1, d2⟩ := inB_int (i := p) (n := ks.length) g.1 (by omega)
      have hsk : sz (ks[p.toNat]'g.2) ≤ 1048576 := Nat.le_trans (sz_kid (.mk n x l ks) _ g.2) hs
      simp only [List.length_cons] at hl
      have ih := sPutS ps _ u v (by omega) hsk h
      have eg : ks.getD p.toNat noTr = ks[p.toNat]'g.2 := by simp [List.getD_eq_getElem?_getD, g.2]
      generalize hq : ks[p.toNat]'g.2 = q at ih eg
      have ei : (avs ks).getD p.toNat .und = av q := by rw [avs_idx g.2, hq]
      have hc : capB (0 + ks.length) 64 = true := capB_le (by omega)
      have hb : Nat.blt p.toNat ks.length = true := blt_true g.2
      have z0 : ¬ ((ps.length + 1 : Nat) : Int) = 0 := by omega
      have z1 : (0 : Int) < ((ps.length + 1 : Nat) : Int) := by omega
      have z2 : (1 : Int) ≤ ((ps.length + 1 : Nat) : Int) := by omega
      have a0 : aggQ (av q) = true := by cases q; rfl
      have a1 : Nat.ble 4 (av q).cells.length = true := by cases q; rfl
      have b0 : CT.shape .str ((av q).get [0]) = true := by cases q; rfl
      have b1 : CT.shape .str ((av q).get [1]) = true := by cases q; rfl
      have b2 : CT.shape .bool ((av q).get [2]) = true := by cases q; rfl
      have b3 : CT.shape (.slice 4) ((av q).get [3]) = true := by cases q; rfl
      have c0 : ((av q).get [0]).toStr = q.name := by cases q; rfl
      have c1 : ((av q).get [1]).toStr = q.text := by cases q; rfl
      have c2 : ((av q).get [2]).toBool = q.leaf := by cases q; rfl
      have c3 : (av q).get [3] = .ro false 4 (avs q.kids) := by cases q; rfl
      have e1 : (av q).okg [3] = true := by cases q; rfl
      have e2 : slQ (.ro false 4 (avs q.kids)) = true := rfl
      have e3 : asRo (.ro false 4 (avs q.kids)) = .ro false 4 (avs q.kids) := by simp only [asRo]
      have e4 : CT.shro (.slice 4) (.ro false 4 (avs q.kids)) = true := rfl
      have e5 : (AVal.ro false 4 (avs q.kids)).elems = avs q.kids := rfl
      have e6 : hasOwn (.ro false 4 (avs q.kids)) = false := by simp only [hasOwn]
      have e7 : CT.shape (.slice 4) (.ro false 4 (avs q.kids)) = true := rfl
      have f1 : AVal.agg (setMany (av q).cells 0 [.str (putT q ps u).name, .str (putT q ps u).text, .bool (putT q ps u).leaf, .ro false 4 (avs (putT q ps u).kids)]) = av (putT q ps u) := by
        cases q; generalize putT _ ps u = w; cases w; rfl
      have f3 : ((iv p :: List.map iv ps).take (ps.length + 1)).drop 1 = ps.map iv := by rw [List.take_of_length_le (by simp)]; rfl
      refine us_l01Put _ _ _ _ _ _ _ _ _ ?_
      simp only [name_mk, text_mk, leaf_mk, kids_mk, putT, eg, List.length_map, List.length_cons, z0, z1, z2, decide_false, decide_true, cond_false, cond_true, avs_len, hc, List.map_cons, List.getD_cons_zero, e_int, e_toInt, d1, d2, Bool.and_self, Bool.or_self, Bool.not_false, hb, ei, a0, a1, b0, b1, b2, c0, c1, c2, c3, e1, e2, e3, e4, e5, e6, e7, f3, ih, Option.bind_some, f1, bnd_eq, avs_set, asRoL_avs, Bool.or_false]
    · cases h
theorem sPutI : ∀ (ps : List Int) (t u v : Tr), ps.length ≤ 1048576 → sz t ≤ 1048576 → sz u ≤ 1048576 → atT t ps = some v →
    Fi_put t.name t.text t.leaf (avs t.kids) (ps.map iv) u.name u.text u.leaf (avs u.kids) = some ((putT t ps u).name, (putT t ps u).text, (putT t ps u).leaf, ows (putT t ps u).kids)
  | [], t, u, v, hl, hs, hu, h => by
    refine ui_put _ _ _ _ _ _ _ _ _ ?_
    simp [putT, s96 u hu]
  | p :: ps, .mk n x l ks, u, v, hl, hs, hu, h => by
    have hk := kids_sz (.mk n x l ks)
    have ec := s96 (.mk n x l ks) hs
    simp only [kids_mk] at hk
    simp only [atT] at h
    split at h
    · rename_i g
      simp only [kids_mk] at g h
      obtain ⟨d1, d2⟩ := inB_int (i := p) (n := ks.length) g.1 (by omega)
      have hsk : sz (ks[p.toNat]'g.2) ≤ 1048576 := Nat.le_trans (sz_kid (.mk n x l ks) _ g.2) hs
      simp only [List.length_cons] at hl
      have ih := sPutI ps _ u v (by omega) hsk hu h
      have eg : ks.getD p.toNat noTr = ks[p.toNat]'g.2 := by simp [List.getD_eq_getElem?_getD, g.2]
      generalize hq : ks[p.toNat]'g.2 = q at ih eg
      have ei : (avs ks).getD p.toNat .und = av q := by rw [avs_idx g.2, hq]
      have ej : (ows ks).getD p.toNat .und = ow q := by rw [ows_idx g.2, hq]
      have hb : Nat.blt p.toNat ks.length = true := blt_true g.2
      have z0 : ¬ ((ps.length + 1 : Nat) : Int) = 0 := by omega
      have z1 : (0 : Int) < ((ps.length + 1 : Nat) : Int) := by omega
      have z2 : (1 : Int) ≤ ((ps.length + 1 : Nat) : Int) := by omega
      have a0 : aggQ (ow q) = true := by cases q; rfl
      have a1 : Nat.ble 4 (ow q).cells.length = true := by cases q; rfl
      have f1 : AVal.agg (setMany (ow q).cells 0 [.str (putT q ps u).name, .str (putT q ps u).text, .bool (putT q ps u).leaf, .own 4 (ows (putT q ps u).kids)]) = ow (putT q ps u) := by
        cases q; generalize putT _ ps u = w; cases w; rfl
      have f3 : ((iv p :: List.map iv ps).take (ps.length + 1)).drop 1 = ps.map iv := by rw [List.take_of_length_le (by simp)]; rfl
      simp only [name_mk, text_mk, leaf_mk, kids_mk] at ec
      refine ui_put _ _ _ _ _ _ _ _ _ ?_
      simp only [name_mk, text_mk, leaf_mk, kids_mk, putT, eg, List.length_map, List.length_cons, z0, z1, z2, decide_false, decide_true, cond_false, cond_true, ec, Option.bind_some, avs_len, ows_len, List.map_cons, List.getD_cons_zero, e_int, e_toInt, d1, d2, Bool.and_self, hb, ei, av_shape, av_0, av_1, av_2, av_3, f3, ih, ej, a0, a1, f1, bnd_eq, ows_set]
    · cases h
/-- what TreePut gives -/
def treePutV (t : Tr) (ps : List Int) (u : Tr) : Tr × Int :=
  if tokB2 t then (if tokB2 u then (match atT t ps with | some _ => (if tokB2 (putT t ps u) then (putT t ps u, 0) else (noTr, 3)) | none => (noTr, 4)) else (noTr, 1)) else (noTr, 1)
theorem treePutV_sz (t u : Tr) (ps : List Int) (hs : sz t + sz u ≤ 1048576) : sz (treePutV t ps u).1 ≤ 1048576 := by
  unfold treePutV
  have z : sz noTr ≤ 1048576 := by simp [noTr, sz, szs]
  split
  · split
    · split
      · rename_i v h
        split
        · exact Nat.le_trans (putT_sz ps t u v h) hs
        · exact z
      · exact z
    · exact z
  · exact z
theorem s59 (t u : Tr) (ps : List Int) (hl : ps.length ≤ 1048576) (hs : sz t + sz u ≤ 1048576) : Fs_TreePut t.name t.text t.leaf (avs t.kids) (ps.map iv) u.name u.text u.leaf (avs u.kids) = some ((treePutV t ps u).1.name, (treePutV t ps u).1.text, (treePutV t ps u).1.leaf, avs (treePutV t ps u).1.kids, (treePutV t ps u).2) := by
  refine us_TreePut _ _ _ _ _ _ _ _ _ ?_
  simp only [s30 t (by omega), s30 u (by omega), Option.bind_some, s92 ps t hl (by omega)]
  unfold treePutV
  by_cases g1 : tokB2 t = true
  · by_cases g2 : tokB2 u = true
    · cases h : atT t ps with
      | none => simp [g1, g2, noTr, Tr.name, Tr.text, Tr.leaf, Tr.kids, avs]
      | some v =>
        have hp := Nat.le_trans (putT_sz ps t u v h) hs
        simp only [g1, g2, Bool.not_true, cond_false, Option.isSome_some, sPutS ps t u v hl (by omega) h, Option.bind_some, s30 _ hp, if_true]
        by_cases g3 : tokB2 (putT t ps u) = true
        · simp only [g3, Bool.not_true, cond_false, s93 _ hp, Option.bind_some, if_true]
        · simp [g3, noTr, Tr.name, Tr.text, Tr.leaf, Tr.kids, avs]
    · simp [g1, g2, noTr, Tr.name, Tr.text, Tr.leaf, Tr.kids, avs]
  · simp [g1, noTr, Tr.name, Tr.text, Tr.leaf, Tr.kids, avs]
theorem s60 (t u : Tr) (ps : List Int) (hl : ps.length ≤ 1048576) (hs : sz t + sz u ≤ 1048576) : Fi_TreePut t.name t.text t.leaf (avs t.kids) (ps.map iv) u.name u.text u.leaf (avs u.kids) = some ((treePutV t ps u).1.name, (treePutV t ps u).1.text, (treePutV t ps u).1.leaf, ows (treePutV t ps u).1.kids, (treePutV t ps u).2) := by
  refine ui_TreePut _ _ _ _ _ _ _ _ _ ?_
  simp only [s32 t (by omega), s32 u (by omega), Option.bind_some, s95 ps t hl]
  unfold treePutV
  by_cases g1 : tokB2 t = true
  · by_cases g2 : tokB2 u = true
    · cases h : atT t ps with
      | none => simp [g1, g2, noTr, Tr.name, Tr.text, Tr.leaf, Tr.kids, ows]
      | some v =>
        have hp := Nat.le_trans (putT_sz ps t u v h) hs
        simp only [g1, g2, Bool.not_true, cond_false, sPutI ps t u v hl (by omega) (by omega) h, Option.bind_some, asRoL_ows, s32 _ hp, if_true]
        by_cases g3 : tokB2 (putT t ps u) = true
        · simp only [g3, Bool.not_true, cond_false, if_true]
        · simp [g3, noTr, Tr.name, Tr.text, Tr.leaf, Tr.kids, ows]
    · simp [g1, g2, noTr, Tr.name, Tr.text, Tr.leaf, Tr.kids, ows]
  · simp [g1, noTr, Tr.name, Tr.text, Tr.leaf, Tr.kids, ows]
theorem law14 (t u : Tr) (ps : List Int) (hw : wf t) (hu : wf u) : Fl_FnExactTreePut t.name t.text t.leaf (avs t.kids) (ps.map iv) u.name u.text u.leaf (avs u.kids) = some true := by
  refine ul_FnExactTreePut _ _ _ _ _ _ _ _ _ ?_
  by_cases g1 : (1048576 : Int) < ps.length
  · simp only [List.length_map, g1, decide_true, cond_true]
  simp only [List.length_map, g1, decide_false, cond_false, s29 t 1048576 hw (by omega) (by omega), Option.bind_some]
  by_cases g : szR 1048576 (sz t) < 0
  · simp only [g, decide_true, cond_true]
  have gl := szR_le _ _ g
  have hs : sz t ≤ 1048576 := by have := szR_nn g; omega
  simp only [g, decide_false, cond_false, s29 u _ hu gl.1 gl.2, Option.bind_some]
  by_cases g' : szR (szR 1048576 (sz t)) (sz u) < 0
  · simp only [g', decide_true, cond_true]
  have e : szR 1048576 (sz t) = 1048576 - (sz t : Int) := by unfold szR at g ⊢; split <;> omega
  have hs2 : sz t + sz u ≤ 1048576 := by have := szR_nn g'; omega
  have hsu : sz u ≤ 1048576 := by omega
  have hl : ps.length ≤ 1048576 := by omega
  have hv := treePutV_sz t u ps hs2
  have c1 := kids_cnt t hs
  have c2 := kids_cnt _ hv
  have c3 := kids_cnt u hsu
  have q1 : ¬ ((1 : Int) + 3 * (cnts t.kids : Int) + (ps.length : Int) + 3 * (cnts u.kids : Int) < 0) := by omega
  have q2 : ¬ ((1 : Int) + 3 * (cnts (treePutV t ps u).1.kids : Int) < 0) := by omega
  simp only [g', decide_false, cond_false, s31 t hs, s31 u hsu, s21 ps hl, asRoL_ows, asRoL_map asRo_iv, s59 t u ps hl hs2, s60 t u ps hl hs2, noRo_ow, Bool.and_self, cond_true, s33 t hs, s33 u hsu, s33 _ hv, Option.bind_some, Bool.not_true, decide_true, s24 ps hl, s52 t hs 1 (by omega) (by omega), s26 ps (1 + 3 * cnts t.kids) hl (by omega) (by omega), s52 u hsu (1 + 3 * cnts t.kids + ps.length) (by omega) (by omega), q1, s52 _ hv 1 (by omega) (by omega), s53 _ hv 1 (by omega) (by omega), q2]
theorem lawTreePut : ∀ xs, FitsL ctx [ty_laws_Tree, ty_S_int, ty_laws_Tree] xs → ∃ k, vcall ctx k n_l_FnExactTreePut xs [] = some ([.bool true], []) := by
  intro xs h
  obtain ⟨x, r, rfl, h1, h⟩ := h.cons'
  obtain ⟨y, r, rfl, h2, h⟩ := h.cons'
  obtain ⟨z, r, rfl, h3, h⟩ := h.cons'
  obtain rfl := h.nil'
  obtain ⟨t, rfl, hw⟩ := fit_tree _ x (Nat.lt_succ_self _) h1
  obtain ⟨ys, rfl, _, w⟩ := h2.slice' (sz := 1) (e := ty_int) (by kernel_rfl)
  obtain ⟨ps, rfl⟩ := ints_of w
  obtain ⟨u, rfl, hu⟩ := fit_tree _ z (Nat.lt_succ_self _) h3
  obtain ⟨n, x, l, ks⟩ := t
  obtain ⟨n', x', l', ks'⟩ := u
  exact law_of (S := sgl_FnExactTreePut) (a := (n, x, l, avs ks, ps.map iv, n', x', l', avs ks')) (law14 (.mk n x l ks) (.mk n' x' l' ks') ps hw hu) (by simp only [av]; rfl) rfl
end Go.Proofs.Ytlaalinfmhiehaa
