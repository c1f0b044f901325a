/- Subtrees, copies, and marks on trees; where the tree is not too large. -/
import Derived.Test.YtlaalinfmhiehaaLt
import Derived.Test.YtlaalinfmhiehaaDf
import Derived.Test.YtlaalinfmhiehaaTTreeAt
namespace Go.Proofs.Ytlaalinfmhiehaa
open Go.VK AVal Tr
/-! Copies -/
mutual
theorem s93 : ∀ t : Tr, sz t ≤ 1048576 → Fs_l01Copy t.name t.text t.leaf (avs t.kids) = some (t.name, t.text, t.leaf, avs t.kids)
  | .mk n t b ks, h => by
    simp only [sz] at h
    refine us_l01Copy _ _ _ _ ?_
    have e := s93_0 n t b ByteArray.empty ByteArray.empty false [] [] ks (by simp; omega) (by omega)
    simp only [List.nil_append, List.length_nil, Int.natCast_zero, avs] at e
    simp only [Tr.name, Tr.text, Tr.leaf, Tr.kids, e, Option.bind_some, asRoL_avs]
theorem s93_0 : ∀ (n t : ByteArray) (b : Bool) (y0 y1 : ByteArray) (y2 : Bool) (y3 : List AVal) (pre ks : List Tr), (pre ++ ks).length ≤ 1048576 → szs ks ≤ 1048576 →
    Ls_l01Copy_0 (pre.length : Int) n t b (avs (pre ++ ks)) y0 y1 y2 y3 (avs pre) = some (n, t, b, avs (pre ++ ks), y0, y1, y2, y3, avs (pre ++ ks))
  | n, t, b, y0, y1, y2, y3, pre, [], hl, hs => by
    refine ls_l01Copy_0 _ _ _ _ _ _ _ _ _ _ ?_
    simp [avs_len]
  | n, t, b, y0, y1, y2, y3, pre, k :: ks, hl, hs => by
    simp only [szs] at hs
    have hm := mid_lt pre ks k
    have hl2 : pre.length + (ks.length + 1) ≤ 1048576 := by simpa using hl
    have e := s93_0 n t b y0 y1 y2 y3 (pre ++ [k]) ks (by simpa using hl) (by omega)
    have ea : avs (pre ++ [k]) = avs pre ++ [av k] := by simp only [avs_map, List.map_append, List.map_cons, List.map_nil]
    have ek : AVal.agg [.str k.name, .str k.text, .bool k.leaf, .ro false 4 (avs k.kids)] = av k := by cases k; rfl
    have hc : capB ((avs pre).length + 1) 64 = true := capB_le (by rw [avs_len]; omega)
    simp only [List.append_assoc, List.cons_append, List.nil_append, List.length_append, List.length_cons, List.length_nil, Nat.zero_add, ea] at e
    refine ls_l01Copy_0 _ _ _ _ _ _ _ _ _ _ ?_
    simp only [Int.toNat_natCast, avs_get, av_shape, av_0, av_1, av_2, av_3, dlt_true hm, d0_true, Bool.and_self, wrap_succ hm (by omega), cond_true, s93 k (by omega), Option.bind_some, hc, ek, bnd_eq, e, avs_len (pre ++ k :: ks)]
end
mutual
theorem s96 : ∀ t : Tr, sz t ≤ 1048576 → Fi_copyTree t.name t.text t.leaf (avs t.kids) = some (t.name, t.text, t.leaf, ows t.kids)
  | .mk n t b ks, h => by
    simp only [sz] at h
    refine ui_copyTree _ _ _ _ ?_
    have e := s96_0 ByteArray.empty ByteArray.empty false [] n t b [] ks (by simp; omega) (by omega)
    simp only [List.nil_append, List.length_nil, Int.natCast_zero, ows] at e
    simp only [Tr.name, Tr.text, Tr.leaf, Tr.kids, avs_len, e, Option.bind_some]
theorem s96_0 : ∀ (y0 y1 : ByteArray) (y2 : Bool) (y3 : List AVal) (n t : ByteArray) (b : Bool) (pre ks : List Tr), (pre ++ ks).length ≤ 1048576 → szs ks ≤ 1048576 →
    Li_copyTree_0 (avs (pre ++ ks)) ((pre ++ ks).length : Int) (pre.length : Int) y0 y1 y2 y3 n t b (ows pre) = some (y0, y1, y2, y3, n, t, b, ows (pre ++ ks))
  | y0, y1, y2, y3, n, t, b, pre, [], hl, hs => by
    refine li_copyTree_0 _ _ _ _ _ _ _ _ _ _ _ ?_
    simp
  | y0, y1, y2, y3, n, t, b, pre, k :: ks, hl, hs => by
    simp only [szs] at hs
    have hm := mid_lt pre ks k
    have hl2 : pre.length + (ks.length + 1) ≤ 1048576 := by simpa using hl
    have e := s96_0 y0 y1 y2 y3 n t b (pre ++ [k]) ks (by simpa using hl) (by omega)
    have ea : ows (pre ++ [k]) = ows pre ++ [ow k] := by simp only [ows_map, List.map_append, List.map_cons, List.map_nil]
    have ek : AVal.agg [.str k.name, .str k.text, .bool k.leaf, .own 4 (ows k.kids)] = ow k := by cases k; rfl
    have hc : capB ((ows pre).length + 1) 64 = true := capB_le (by rw [ows_len]; omega)
    have el : ∀ x : Tr, (pre ++ [x]).length = pre.length + 1 := fun x => by simp
    simp only [List.append_assoc, List.cons_append, List.nil_append, el, ea] at e
    refine li_copyTree_0 _ _ _ _ _ _ _ _ _ _ _ ?_
    simp only [Int.toNat_natCast, avs_get, av_shape, av_0, av_1, av_2, av_3, dlt_true hm, d0_true, Bool.and_self, wrap_succ hm (by omega), cond_true, s96 k (by omega), Option.bind_some, hc, ek, bnd_eq, e, avs_len (pre ++ k :: ks)]
end
/-! Places -/
def atT : Tr → List Int → Option Tr
  | t, [] => some t
  | t, p :: ps => if h : 0 ≤ p ∧ p.toNat < t.kids.length then atT (t.kids[p.toNat]'h.2) ps else none
theorem szs_mem : ∀ {ks : List Tr} {k : Tr}, k ∈ ks → sz k ≤ szs ks
  | [], k, h => by simp at h
  | a :: ks, k, h => by
    simp only [List.mem_cons] at h
    simp only [szs]
    rcases h with rfl | h
    · omega
    · have := szs_mem h; omega
theorem sz_kid (t : Tr) (i : Nat) (h : i < t.kids.length) : sz (t.kids[i]'h) ≤ sz t := by
  cases t with
  | mk n x l ks =>
    have := szs_mem (List.getElem_mem (l := ks) h)
    simp only [Tr.kids] at this ⊢
    simp only [sz]; omega
theorem kids_sz (t : Tr) : t.kids.length ≤ sz t := by cases t; simp only [Tr.kids, sz]; omega
theorem avs_idx {ks : List Tr} {i : Nat} (h : i < ks.length) : (avs ks).getD i .und = av ks[i] := by rw [avs_map]; exact getD_map av h
theorem atT_sz : ∀ (ps : List Int) (t u : Tr), atT t ps = some u → sz u ≤ sz t
  | [], t, u, h => by simp only [atT, Option.some.injEq] at h; subst h; exact Nat.le_refl _
  | p :: ps, t, u, h => by
    simp only [atT] at h
    split at h
    · rename_i hp
      exact Nat.le_trans (atT_sz ps _ u h) (sz_kid t _ hp.2)
    · cases h
theorem s92_0 : ∀ (ps pre : List Int) (t : Tr), (pre ++ ps).length ≤ 1048576 → sz t ≤ 1048576 →
    Ls_l01Leads_0 ((pre ++ ps).map iv) (pre.length : Int) t.name t.text t.leaf (avs t.kids) = some (if (atT t ps).isSome then .inr () else .inl false)
  | [], pre, t, hl, hs => by
    refine ls_l01Leads_0 _ _ _ _ _ _ ?_
    simp [atT]
  | p :: ps, pre, t, hl, hs => by
    have hm := mid_len pre ps p
    have hk := kids_sz t
    have ew : IntKind.wrap .i64 ((t.kids.length : Int) - 1) = (t.kids.length : Int) - 1 := wrap64 (by omega) (by omega)
    refine ls_l01Leads_0 _ _ _ _ _ _ ?_
    simp only [List.length_map, Int.toNat_natCast, dlt_true hm, d0_true, Bool.and_self, cond_true, map_mid, e_int, e_toInt, avs_len, ew, s61', Option.bind_some, wrap_succ hm (by omega), atT]
    by_cases g : 0 ≤ p ∧ p.toNat < t.kids.length
    · have q : inQ 0 ((t.kids.length : Int) - 1) p = true := by simp only [inQ, Bool.and_eq_true, decide_eq_true_eq]; omega
      obtain ⟨d1, d2⟩ := inB_int (i := p) (n := t.kids.length) g.1 (by omega)
      have ih := s92_0 ps (pre ++ [p]) (t.kids[p.toNat]'g.2) (by simpa using hl) (Nat.le_trans (sz_kid t _ g.2) hs)
      have el : ∀ x : Int, (pre ++ [x]).length = pre.length + 1 := fun x => by simp
      simp only [List.append_assoc, List.cons_append, List.nil_append, el] at ih
      simp only [q, Bool.not_true, cond_false, d1, d2, Bool.and_self, cond_true, avs_idx g.2, av_shape, av_0, av_1, av_2, av_3, g, and_self, decide_true, dite_true, ih]
    · have q : inQ 0 ((t.kids.length : Int) - 1) p = false := by simp only [inQ, Bool.and_eq_false_iff, decide_eq_false_iff_not]; omega
      simp only [q, Bool.not_false, cond_true, g, dite_false, Option.isSome_none, Bool.false_eq_true, if_false]
theorem s92 (ps : List Int) (t : Tr) (hl : ps.length ≤ 1048576) (hs : sz t ≤ 1048576) : Fs_l01Leads t.name t.text t.leaf (avs t.kids) (ps.map iv) = some (atT t ps).isSome := by
  refine us_l01Leads _ _ _ _ _ ?_
  have e := s92_0 ps [] t (by simpa using hl) hs
  simp only [List.nil_append, List.length_nil, Int.natCast_zero] at e
  rw [e]
  cases h : atT t ps <;> simp
theorem s94_0 : ∀ (ps pre : List Int) (t u : Tr) (y0 y1 : ByteArray) (y2 : Bool) (y3 : List AVal), (pre ++ ps).length ≤ 1048576 → atT t ps = some u →
    Ls_l01At_0 ((pre ++ ps).map iv) (pre.length : Int) t.name t.text t.leaf (avs t.kids) y0 y1 y2 y3 = some (u.name, u.text, u.leaf, avs u.kids, y0, y1, y2, y3)
  | [], pre, t, u, y0, y1, y2, y3, hl, h => by
    refine ls_l01At_0 _ _ _ _ _ _ _ _ _ _ ?_
    simp only [atT, Option.some.injEq] at h
    subst h
    simp
  | p :: ps, pre, t, u, y0, y1, y2, y3, hl, h => by
    have hm := mid_len pre ps p
    refine ls_l01At_0 _ _ _ _ _ _ _ _ _ _ ?_
    simp only [atT] at h
    split at h
    · rename_i g
      obtain ⟨d1, d2⟩ := inB_int (i := p) (n := t.kids.length) g.1 (by omega)
      have ih := s94_0 ps (pre ++ [p]) _ u y0 y1 y2 y3 (by simpa using hl) h
      have el : ∀ x : Int, (pre ++ [x]).length = pre.length + 1 := fun x => by simp
      simp only [List.append_assoc, List.cons_append, List.nil_append, el] at ih
      simp only [List.length_map, Int.toNat_natCast, dlt_true hm, d0_true, Bool.and_self, cond_true, map_mid, e_int, e_toInt, avs_len, d1, d2, avs_idx g.2, av_shape, av_0, av_1, av_2, av_3, wrap_succ hm (by omega), ih]
    · cases h
theorem s94 (ps : List Int) (t u : Tr) (hl : ps.length ≤ 1048576) (h : atT t ps = some u) : Fs_l01At t.name t.text t.leaf (avs t.kids) (ps.map iv) = some (u.name, u.text, u.leaf, avs u.kids) := by
  refine us_l01At _ _ _ _ _ ?_
  have e := s94_0 ps [] t u ByteArray.empty ByteArray.empty false [] (by simpa using hl) h
  simp only [List.nil_append, List.length_nil, Int.natCast_zero] at e
  simp only [e, Option.bind_some]
theorem s95_0 : ∀ (ps pre : List Int) (t : Tr) (y0 y1 : ByteArray) (y2 : Bool) (y3 : List AVal), (pre ++ ps).length ≤ 1048576 →
    Li_at_0 ((pre ++ ps).map iv) ((pre ++ ps).length : Int) (pre.length : Int) t.name t.text t.leaf (avs t.kids) y0 y1 y2 y3 =
      some (match atT t ps with | some u => .inr (u.name, u.text, u.leaf, avs u.kids, y0, y1, y2, y3) | none => .inl (false, ByteArray.empty, ByteArray.empty, false, []))
  | [], pre, t, y0, y1, y2, y3, hl => by
    refine li_at_0 _ _ _ _ _ _ _ _ _ _ _ ?_
    simp [atT]
  | p :: ps, pre, t, y0, y1, y2, y3, hl => by
    have hm := mid_len pre ps p
    refine li_at_0 _ _ _ _ _ _ _ _ _ _ _ ?_
    simp only [List.length_map, Int.toNat_natCast, dlt_true hm, d0_true, Bool.and_self, cond_true, map_mid, e_int, e_toInt, avs_len, wrap_succ hm (by omega), atT]
    by_cases g : 0 ≤ p ∧ p.toNat < t.kids.length
    · obtain ⟨d1, d2⟩ := inB_int (i := p) (n := t.kids.length) g.1 (by omega)
      have q1 : ¬ p < 0 := by omega
      have q2 : ¬ (t.kids.length : Int) ≤ p := by omega
      have ih := s95_0 ps (pre ++ [p]) (t.kids[p.toNat]'g.2) y0 y1 y2 y3 (by simpa using hl)
      have el : ∀ x : Int, (pre ++ [x]).length = pre.length + 1 := fun x => by simp
      simp only [List.append_assoc, List.cons_append, List.nil_append, el] at ih
      simp only [q1, q2, decide_false, cond_false, d1, d2, Bool.and_self, cond_true, avs_idx g.2, av_shape, av_0, av_1, av_2, av_3, g, and_self, decide_true, dite_true, ih]
    · by_cases q1 : p < 0
      · simp only [q1, decide_true, cond_true, g, dite_false]
      · have q2 : (t.kids.length : Int) ≤ p := by omega
        simp only [q1, q2, decide_true, decide_false, cond_true, cond_false, g, dite_false]
/-- no tree -/
def noTr : Tr := .mk ByteArray.empty ByteArray.empty false []
theorem s95 (ps : List Int) (t : Tr) (hl : ps.length ≤ 1048576) : Fi_at t.name t.text t.leaf (avs t.kids) (ps.map iv) = some (match atT t ps with | some u => (u.name, u.text, u.leaf, avs u.kids, true) | none => (ByteArray.empty, ByteArray.empty, false, [], false)) := by
  refine ui_at _ _ _ _ _ ?_
  have e := s95_0 ps [] t ByteArray.empty ByteArray.empty false [] (by simpa using hl)
  simp only [List.nil_append, List.length_nil, Int.natCast_zero] at e
  rw [List.length_map, e]
  cases h : atT t ps with
  | none => simp [asRoL]
  | some u => simp
/-- what TreeAt gives -/
def treeAtV (t : Tr) (ps : List Int) : Tr × Int :=
  if tokB2 t then (match atT t ps with | some u => (u, 0) | none => (noTr, 4)) else (noTr, 1)
theorem s50 (ps : List Int) (t : Tr) (hl : ps.length ≤ 1048576) (hs : sz t ≤ 1048576) : Fs_TreeAt t.name t.text t.leaf (avs t.kids) (ps.map iv) = some ((treeAtV t ps).1.name, (treeAtV t ps).1.text, (treeAtV t ps).1.leaf, avs (treeAtV t ps).1.kids, (treeAtV t ps).2) := by
  refine us_TreeAt _ _ _ _ _ ?_
  simp only [s30 t hs, Option.bind_some, s92 ps t hl hs]
  unfold treeAtV
  by_cases g : tokB2 t = true
  · cases h : atT t ps with
    | none => simp [g, noTr, Tr.name, Tr.text, Tr.leaf, Tr.kids, avs]
    | some u =>
      have hu := Nat.le_trans (atT_sz ps t u h) hs
      simp only [g, Bool.not_true, cond_false, Option.isSome_some, s94 ps t u hl h, Option.bind_some, s93 u hu, if_true]
  · simp [g, noTr, Tr.name, Tr.text, Tr.leaf, Tr.kids, avs]
theorem s51 (ps : List Int) (t : Tr) (hl : ps.length ≤ 1048576) (hs : sz t ≤ 1048576) : Fi_TreeAt t.name t.text t.leaf (avs t.kids) (ps.map iv) = some ((treeAtV t ps).1.name, (treeAtV t ps).1.text, (treeAtV t ps).1.leaf, ows (treeAtV t ps).1.kids, (treeAtV t ps).2) := by
  refine ui_TreeAt _ _ _ _ _ ?_
  simp only [s32 t hs, Option.bind_some, s95 ps t hl]
  unfold treeAtV
  by_cases g : tokB2 t = true
  · cases h : atT t ps with
    | none => simp [g, noTr, Tr.name, Tr.text, Tr.leaf, Tr.kids, ows]
    | some u =>
      have hu := Nat.le_trans (atT_sz ps t u h) hs
      simp only [g, Bool.not_true, cond_false, Option.bind_some, s96 u hu, if_true]
  · simp [g, noTr, Tr.name, Tr.text, Tr.leaf, Tr.kids, ows]
theorem treeAtV_sz (t : Tr) (ps : List Int) (hs : sz t ≤ 1048576) : sz (treeAtV t ps).1 ≤ 1048576 := by
  unfold treeAtV
  split
  · split
    · rename_i u h; exact Nat.le_trans (atT_sz ps t u h) hs
    · simp [noTr, sz, szs]
  · simp [noTr, sz, szs]
/-! Marks -/
theorem l122_ex : ∀ (n : Nat) (k : Nat) (b : ByteArray), k ≤ n → b.size + k ≤ 1000000000000 → ∃ r : ByteArray, Ll_markText_0 (k : Int) b = some r ∧ r.size ≤ b.size + k
  | 0, k, b, hk, hb => by
    refine ⟨b, ll_markText_0 _ _ ?_, by omega⟩
    obtain rfl : k = 0 := by omega
    simp
  | n + 1, k, b, hk, hb => by
    by_cases g : k = 0
    · refine ⟨b, ll_markText_0 _ _ ?_, by omega⟩
      simp [g]
    · have g0 : (0 : Int) < (k : Int) := by omega
      have hd : Int.tdiv (k : Int) 10 = ((k / 10 : Nat) : Int) := by rw [Int.tdiv_eq_ediv_of_nonneg (by omega)]; omega
      have ew : IntKind.wrap .i64 (Int.tdiv (k : Int) 10) = ((k / 10 : Nat) : Int) := by rw [hd, wrap64 (by omega) (by omega)]
      have e1 : ∀ x : Int, allInt .u8 [.int .u8 x] = true := fun x => rfl
      have e2 : ∀ x : Int, (bytesOfL [.int .u8 x]).size = 1 := fun x => rfl
      obtain ⟨r, h1, h2⟩ := l122_ex n (k / 10) (bytesOfL [.int .u8 (IntKind.wrap .u8 (IntKind.wrap .i64 (48 + Int.tmod (k : Int) 10)))] ++ b) (by omega) (by rw [ByteArray.size_append, e2]; omega)
      rw [ByteArray.size_append, e2] at h2
      refine ⟨r, ll_markText_0 _ _ ?_, by omega⟩
      have e3 : decide (((1 + b.size : Nat) : Int) ≤ maxI64) = true := decide_eq_true (by unfold maxI64; omega)
      simp only [g0, decide_true, cond_true, e1, e2, e3, ew, h1]
theorem s122_ex (k : Int) (h : k ≤ 100000000000) : ∃ r, Fl_markText k = some r := by
  by_cases g : k ≤ 0
  · exact ⟨_, ul_markText _ (by simp only [g, decide_true, cond_true]; rfl)⟩
  · obtain ⟨n, rfl⟩ : ∃ n : Nat, k = n := ⟨k.toNat, by omega⟩
    obtain ⟨r, h1, h2⟩ := l122_ex n n (ByteArray.mk #[]) (Nat.le_refl _) (by rw [show (ByteArray.mk #[]).size = 0 from rfl]; omega)
    have h3 : r.size ≤ n := by rw [show (ByteArray.mk #[]).size = 0 from rfl] at h2; omega
    have e3 : decide ((((ByteArray.mk #[109]).size + r.size : Nat) : Int) ≤ maxI64) = true := decide_eq_true (by rw [show (ByteArray.mk #[109]).size = 1 from rfl]; unfold maxI64; omega)
    exact ⟨_, ul_markText _ (by simp only [g, decide_false, cond_false, h1, Option.bind_some, e3, cond_true]; rfl)⟩
noncomputable def mt (k : Int) : ByteArray := (Fl_markText k).getD ByteArray.empty
theorem s122 (k : Int) (h : k ≤ 100000000000) : Fl_markText k = some (mt k) := by
  obtain ⟨r, h⟩ := s122_ex k h
  simp [mt, h]
mutual
noncomputable def mkT : Int → Tr → Tr
  | k, .mk _ _ _ ks => .mk (mt k) (mt (k + 1)) (decide (Int.tmod (k + 2) 3 = 0)) (mkTs (k + 3) ks)
noncomputable def mkTs : Int → List Tr → List Tr
  | _, [] => []
  | k, t :: ts => mkT k t :: mkTs (k + 3 * cnt t) ts
end
theorem mkTs_len : ∀ (ts : List Tr) (k : Int), (mkTs k ts).length = ts.length
  | [], k => by simp [mkTs]
  | t :: ts, k => by simp [mkTs, mkTs_len ts]
theorem ows_get (pre suf : List Tr) (k : Tr) : (ows (pre ++ k :: suf)).getD pre.length .und = ow k := by rw [ows_map]; simp
theorem ows_mid (pre suf : List Tr) (k : Tr) : ows (pre ++ k :: suf) = ows pre ++ ow k :: ows suf := by simp [ows_map]
theorem omid_get (pre : List Tr) (suf : List AVal) (x : AVal) : (ows pre ++ x :: suf).getD pre.length .und = x := by rw [← ows_len pre]; exact mid_get ..
theorem omid_set (pre : List Tr) (suf : List AVal) (x y : AVal) : (ows pre ++ x :: suf).set pre.length y = ows pre ++ y :: suf := by rw [← ows_len pre]; exact mid_set ..
theorem omid_lt (pre : List Tr) (suf : List AVal) (x : AVal) : pre.length < (ows pre ++ x :: suf).length := by rw [List.length_append, ows_len]; simp
mutual
theorem s97 : ∀ (ks : List Tr) (k : Int), ks.length + szs ks ≤ 1048576 → 0 ≤ k → k + 3 * cnts ks ≤ 10000000000 → Fl_markTreeS k (ows ks) = some (k + 3 * cnts ks, ows (mkTs k ks))
  | ks, k, hs, h0, h1 => by
    refine ul_markTreeS _ _ ?_
    have e := s97_0 [] ks k (by simp; omega) (by omega) h0 h1
    simp only [List.nil_append, List.length_nil, Int.natCast_zero] at e
    simp only [e, Option.bind_some]
theorem s97_0 : ∀ (pre ks : List Tr) (k : Int), (pre ++ ks).length ≤ 1048576 → szs ks ≤ 1048576 → 0 ≤ k → k + 3 * cnts ks ≤ 10000000000 → Ll_markTreeS_0 k (pre.length : Int) (ows (pre ++ ks)) = some (k + 3 * cnts ks, ows (pre ++ mkTs k ks))
  | pre, [], k, hl, hs, h0, h1 => by
    refine ll_markTreeS_0 _ _ _ ?_
    simp [ows_len, cnts, mkTs]
  | pre, .mk n t b qs :: ks, k, hl, hs, h0, h1 => by
    have hl2 : pre.length + (ks.length + 1) ≤ 1048576 := by simpa using hl
    simp only [szs, sz] at hs
    simp only [cnts, cnt, Int.natCast_add] at h1
    have hm := fun x => omid_lt pre (ows ks) x
    have ih1 := s97 qs (k + 3) (by omega) (by omega) (by omega)
    have ih2 := s97_0 (pre ++ [.mk (mt k) (mt (k + 1)) (decide (Int.tmod (k + 2) 3 = 0)) (mkTs (k + 3) qs)]) ks (k + 3 + 3 * cnts qs) (by simpa using hl) (by omega) (by omega) (by omega)
    have el : ∀ x : Tr, (pre ++ [x]).length = pre.length + 1 := fun x => by simp
    simp only [List.append_assoc, List.cons_append, List.nil_append, el, ows_mid pre] at ih2
    have ew1 : IntKind.wrap .i64 (k + 1) = k + 1 := wrap64 (by omega) (by omega)
    have ew2 : IntKind.wrap .i64 (k + 1 + 1) = k + 2 := by rw [wrap64 (by omega) (by omega)]; omega
    have ew3 : IntKind.wrap .i64 (k + 2 + 1) = k + 3 := by rw [wrap64 (by omega) (by omega)]; omega
    refine ll_markTreeS_0 _ _ _ ?_
    have a0 : aggQ (ow (.mk n t b qs)) = true := rfl
    have a1 : Nat.ble 1 (ow (.mk n t b qs)).cells.length = true := rfl
    have a2 : AVal.agg (setMany (ow (.mk n t b qs)).cells 0 [.str (mt k)]) = ow (.mk (mt k) t b qs) := rfl
    have b0 : aggQ (ow (.mk (mt k) t b qs)) = true := rfl
    have b1 : Nat.ble 2 (ow (.mk (mt k) t b qs)).cells.length = true := rfl
    have b2 : AVal.agg (setMany (ow (.mk (mt k) t b qs)).cells 1 [.str (mt (k + 1))]) = ow (.mk (mt k) (mt (k + 1)) b qs) := rfl
    have c0 : aggQ (ow (.mk (mt k) (mt (k + 1)) b qs)) = true := rfl
    have c1 : Nat.ble 3 (ow (.mk (mt k) (mt (k + 1)) b qs)).cells.length = true := rfl
    have c2 : AVal.agg (setMany (ow (.mk (mt k) (mt (k + 1)) b qs)).cells 2 [.bool (decide (Int.tmod (k + 2) 3 = 0))]) = ow (.mk (mt k) (mt (k + 1)) (decide (Int.tmod (k + 2) 3 = 0)) qs) := rfl
    have d0 : aggQ (ow (.mk (mt k) (mt (k + 1)) (decide (Int.tmod (k + 2) 3 = 0)) qs)) = true := rfl
    have d1 : (ow (.mk (mt k) (mt (k + 1)) (decide (Int.tmod (k + 2) 3 = 0)) qs)).okg [3] = true := rfl
    have d2 : (ow (.mk (mt k) (mt (k + 1)) (decide (Int.tmod (k + 2) 3 = 0)) qs)).okp [3] = true := rfl
    have d3 : (ow (.mk (mt k) (mt (k + 1)) (decide (Int.tmod (k + 2) 3 = 0)) qs)).get [3] = .own 4 (ows qs) := rfl
    have d4 : (ow (.mk (mt k) (mt (k + 1)) (decide (Int.tmod (k + 2) 3 = 0)) qs)).put [3] .und = .agg [.str (mt k), .str (mt (k + 1)), .bool (decide (Int.tmod (k + 2) 3 = 0)), .und] := rfl
    have d5 : CT.shape (.slice 4) (.own 4 (ows qs)) = true := rfl
    have d6 : CT.shOwn (.slice 4) (.own 4 (ows qs)) = true := rfl
    have d7 : lend.isOwn (.own 4 (ows qs)) = true := rfl
    have d8 : (AVal.own 4 (ows qs)).elems = ows qs := rfl
    have f1 : (AVal.agg [.str (mt k), .str (mt (k + 1)), .bool (decide (Int.tmod (k + 2) 3 = 0)), .und]).okp [3] = true := rfl
    have f2 : aggQ ((AVal.agg [.str (mt k), .str (mt (k + 1)), .bool (decide (Int.tmod (k + 2) 3 = 0)), .und]).get [3]) = false := rfl
    have f3 : (AVal.agg [.str (mt k), .str (mt (k + 1)), .bool (decide (Int.tmod (k + 2) 3 = 0)), .und]).put [3] (.own 4 (ows (mkTs (k + 3) qs))) = ow (.mk (mt k) (mt (k + 1)) (decide (Int.tmod (k + 2) 3 = 0)) (mkTs (k + 3) qs)) := rfl
    have hlen : ∀ x : AVal, (ows pre ++ x :: ows ks).length ≤ 9000000000000000000 := fun x => by simp [ows_len]; omega
    simp only [ows_mid pre, Int.toNat_natCast, dlt_true (hm _), d0_true, Bool.and_self, Bool.and_true, cond_true, s122 k (by omega), s122 (k + 1) (by omega), Option.bind_some, omid_get, omid_set, blt_true (hm _), a0, a1, a2, bnd_eq, ew1, b0, b1, b2, c0, c1, c2, ew2, d0, d1, d2, d3, d4, d5, d6, d7, d8, ew3, ih1, f1, f2, Bool.not_false, f3, wrap_succ (hm (ow (.mk n t b qs))) (hlen _), ih2, mkTs, mkT, cnts, cnt, Option.some.injEq, Prod.mk.injEq]
    refine ⟨by omega, ?_⟩
    rw [show k + 3 * ((1 + cnts qs : Nat) : Int) = k + 3 + 3 * (cnts qs : Int) by omega]
end
end Go.Proofs.Ytlaalinfmhiehaa
