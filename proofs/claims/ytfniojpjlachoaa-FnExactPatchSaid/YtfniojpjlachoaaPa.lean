/- The law Patch answers true at all plain arguments; no condition. -/
import Derived.Test.YtfniojpjlachoaaDl
namespace Go.Proofs.Ytfniojpjlachoaa
open Go.VK AVal Tr
def zeroT (t : Tr) : Bool := decide (t.name = ByteArray.mk #[]) && (decide (t.text = ByteArray.mk #[]) && (!t.leaf && decide (t.kids.length = 0)))
mutual
def patchO : Tr → Dl → Option Tr
  | a, .mk k t ks =>
    if k = 1 then (if zeroT t && decide (ks.length = 0) then some a else none)
    else if k = 2 then (if tokB2 t && decide (ks.length = 0) then some t else none)
    else if k = 3 then (if a.leaf then none else if zeroT t then (match patchL a.kids ks with
      | some (out, rest) => if rest.length = 0 then some (.mk a.name ByteArray.empty false out) else none
      | none => none) else none)
    else none
def patchL : List Tr → List Dl → Option (List Tr × List Tr)
  | ak, [] => some ([], ak)
  | ak, d :: ks =>
    if d.kind = 5 then (if tokB2 d.tree && decide (d.kids.length = 0) then (patchL ak ks).map (fun r => (d.tree :: r.1, r.2)) else none)
    else match ak with
      | [] => none
      | x :: xs => if d.kind = 4 then (if zeroT d.tree && decide (d.kids.length = 0) then patchL xs ks else none)
        else (match patchO x d with | none => none | some y => (patchL xs ks).map (fun r => (y :: r.1, r.2)))
end
theorem zeroS (t : Tr) : Fs_l15Zero t.name t.text t.leaf (avs t.kids) = some (zeroT t) := by
  refine us_l15Zero _ _ _ _ ?_
  have e : ((t.kids.length : Int) = 0) ↔ t.kids.length = 0 := by omega
  simp only [avs_len, e, zeroT]
  by_cases g1 : t.name = ByteArray.mk #[] <;> by_cases g2 : t.text = ByteArray.mk #[] <;> cases g3 : t.leaf <;> simp [g1, g2]
theorem zeroI (t : Tr) : Fi_zeroTree t.name t.text t.leaf (avs t.kids) = some (zeroT t) := by
  refine ui_zeroTree _ _ _ _ ?_
  have e : ((t.kids.length : Int) = 0) ↔ t.kids.length = 0 := by omega
  simp only [avs_len, e, zeroT]
  by_cases g1 : t.name = ByteArray.mk #[] <;> by_cases g2 : t.text = ByteArray.mk #[] <;> cases g3 : t.leaf <;> simp [g1, g2]
theorem szs_mem' : ∀ {ks : List Tr} {k : Tr}, k ∈ ks → sz k ≤ szs ks
  | [], k, h => by simp at h
  | a :: ks, k, h => by
    simp only [List.mem_cons] at h
    simp only [szs]
    rcases h with rfl | h
    · omega
    · have := szs_mem' h; omega
theorem kids_sz' (t : Tr) : t.kids.length ≤ sz t := by cases t; simp only [Tr.kids, sz]; omega
theorem amid_tr (ap ak : List Tr) (x : Tr) : (avs (ap ++ x :: ak)).getD ap.length .und = av x := avs_get ap ak x
theorem agg_av (t : Tr) : AVal.agg [.str t.name, .str t.text, .bool t.leaf, .ro false 4 (avs t.kids)] = av t := by cases t; rfl
theorem avs_snoc (o : List Tr) (t : Tr) : avs o ++ [av t] = avs (o ++ [t]) := by simp [avs_map]
theorem kids0 (d : Dl) : ((0 : Int) < (d.kids.length : Int)) ↔ ¬ d.kids.length = 0 := by omega
mutual
theorem patS : ∀ (a : Tr) (d : Dl), sz a ≤ 1048576 → Dl.sz d ≤ 1048576 → ∃ jn jt jl jk, Fs_l15Patch a.name a.text a.leaf (avs a.kids) d.kind d.tree.name d.tree.text d.tree.leaf (avs d.tree.kids) (Dl.avs d.kids) =
    some (match patchO a d with | some t => (t.name, t.text, t.leaf, avs t.kids, true) | none => (jn, jt, jl, jk, false))
  | a, .mk k t ks, ha, hd => by
    simp only [Dl.sz] at hd
    have hk : sz t ≤ 1048576 := by omega
    have e0 : ((ks.length : Int) = 0) ↔ ks.length = 0 := by omega
    by_cases g1 : k = 1
    · refine ⟨a.name, a.text, a.leaf, avs a.kids, us_l15Patch _ _ _ _ _ _ _ _ _ _ ?_⟩
      simp only [Dl.kind, Dl.tree, Dl.kids, g1, decide_true, cond_true, zeroS, Option.bind_some, Dl.avs_len, e0, patchO]
      by_cases q1 : zeroT t = true
      · by_cases q2 : ks.length = 0 <;> simp [q1, q2]
      · simp [q1]
    by_cases g2 : k = 2
    · refine ⟨t.name, t.text, t.leaf, avs t.kids, us_l15Patch _ _ _ _ _ _ _ _ _ _ ?_⟩
      simp only [Dl.kind, Dl.tree, Dl.kids, g2, show ((2 : Int) = 1) = False from by simp, decide_true, decide_false, cond_true, cond_false, s30 t hk, Option.bind_some, Dl.avs_len, e0, patchO]
      by_cases q1 : tokB2 t = true
      · by_cases q2 : ks.length = 0 <;> simp [q1, q2]
      · simp [q1]
    by_cases g3 : k = 3
    · by_cases q0 : a.leaf = true
      · refine ⟨a.name, a.text, true, avs a.kids, us_l15Patch _ _ _ _ _ _ _ _ _ _ ?_⟩
        simp [Dl.kind, g3, q0, patchO]
      by_cases q1 : zeroT t = true
      · obtain ⟨at_, e, hat⟩ := patS_0 [] a.kids a rfl [] ks [] k t.name t.text t.leaf (avs t.kids) ByteArray.empty ByteArray.empty false [] a.name ByteArray.empty false ha (by simp; omega) (by omega) (by simp)
        simp only [List.nil_append, List.length_nil, Int.natCast_zero, avs] at e
        cases hp : patchL a.kids ks with
        | none =>
          rw [hp] at e
          refine ⟨a.name, a.text, a.leaf, avs a.kids, us_l15Patch _ _ _ _ _ _ _ _ _ _ ?_⟩
          simp only [Dl.kind, Dl.tree, Dl.kids, g3, show ((3 : Int) = 1) = False from by simp, show ((3 : Int) = 2) = False from by simp, decide_true, decide_false, cond_true, cond_false, Bool.eq_false_iff.2 q0, zeroS, q1, Option.bind_some, Bool.not_true, patchO, hp, if_true, if_false, Bool.false_eq_true]
          rw [g3, Bool.eq_false_iff.2 q0] at e
          simp only [e, Option.bind_some, Sum.elim_inl]
        | some r =>
          obtain ⟨out, rest⟩ := r
          rw [hp] at e
          have e1 : decide (at_ = (a.kids.length : Int)) = decide (rest.length = 0) := by
            have := hat out rest hp
            congr 1; apply propext; omega
          refine ⟨a.name, ByteArray.empty, false, avs out, us_l15Patch _ _ _ _ _ _ _ _ _ _ ?_⟩
          simp only [Dl.kind, Dl.tree, Dl.kids, g3, show ((3 : Int) = 1) = False from by simp, show ((3 : Int) = 2) = False from by simp, decide_true, decide_false, cond_true, cond_false, Bool.eq_false_iff.2 q0, zeroS, q1, Option.bind_some, Bool.not_true, patchO, hp, if_true, if_false, Bool.false_eq_true]
          rw [g3, Bool.eq_false_iff.2 q0] at e
          simp only [e, Option.bind_some, Sum.elim_inr, avs_len, e1, asRoL_avs]
          by_cases q2 : rest.length = 0 <;> simp [q2, Tr.name, Tr.text, Tr.leaf, Tr.kids]
      · refine ⟨a.name, a.text, a.leaf, avs a.kids, us_l15Patch _ _ _ _ _ _ _ _ _ _ ?_⟩
        simp [Dl.kind, Dl.tree, g3, q0, q1, zeroS, patchO]
    · refine ⟨a.name, a.text, a.leaf, avs a.kids, us_l15Patch _ _ _ _ _ _ _ _ _ _ ?_⟩
      simp [Dl.kind, g1, g2, g3, patchO]
theorem patS_0 : ∀ (ap ak : List Tr) (a : Tr) (_hk : a.kids = ap ++ ak) (dp ks : List Dl) (o : List Tr) (k : Int) (dn dt : ByteArray) (dl : Bool) (dk : List AVal) (z1 z2 : ByteArray) (z3 : Bool) (z4 : List AVal) (o1 o2 : ByteArray) (o3 : Bool), sz a ≤ 1048576 → (dp ++ ks).length ≤ 1048576 → Dl.szs ks ≤ 1048576 → o.length ≤ dp.length →
    ∃ at_ : Int, Ls_l15Patch_0 (ap.length : Int) (dp.length : Int) a.name a.text a.leaf (avs a.kids) k dn dt dl dk (Dl.avs (dp ++ ks)) z1 z2 z3 z4 o1 o2 o3 (avs o) =
      some (match patchL ak ks with | none => .inl (false, a.name, a.text, a.leaf, avs a.kids) | some (out, _) => .inr (at_, a.name, a.text, a.leaf, avs a.kids, z1, z2, z3, z4, o1, o2, o3, avs (o ++ out))) ∧
      ∀ out rest, patchL ak ks = some (out, rest) → at_ + rest.length = a.kids.length
  | ap, ak, a, hk, dp, [], o, k, dn, dt, dl, dk, z1, z2, z3, z4, o1, o2, o3, ha, hl, hs, ho => by
    refine ⟨ap.length, ls_l15Patch_0 _ _ _ _ _ _ _ _ _ _ _ _ _ _ _ _ _ _ _ _ ?_, fun out rest h => ?_⟩
    · simp [Dl.avs_len, patchL]
    · simp only [patchL, Option.some.injEq, Prod.mk.injEq] at h
      obtain ⟨_, rfl⟩ := h
      rw [hk, List.length_append]; omega
  | ap, ak, a, hk, dp, d :: ks, o, k, dn, dt, dl, dk, z1, z2, z3, z4, o1, o2, o3, ha, hl, hs, ho => by
    simp only [Dl.szs] at hs
    have hl2 : dp.length + (ks.length + 1) ≤ 1048576 := by simpa using hl
    have hm := Dl.lt dp ks d
    have hka := kids_sz' a
    have hkl : a.kids.length = ap.length + ak.length := by rw [hk, List.length_append]
    have hdt : sz d.tree ≤ 1048576 := by cases d; simp only [Dl.sz] at hs; simp only [Dl.tree]; omega
    have hc : capB ((avs o).length + 1) 64 = true := capB_le (by rw [avs_len]; omega)
    have ed : ∀ x : Dl, (dp ++ [x]).length = dp.length + 1 := fun x => by simp
    have ei : IntKind.wrap .i64 ((dp.length : Int) + 1) = ((dp.length + 1 : Nat) : Int) := wrap_succ hm (by omega)
    by_cases g5 : d.kind = 5
    · by_cases q1 : tokB2 d.tree = true
      · by_cases q2 : d.kids.length = 0
        · obtain ⟨at_, e, hat⟩ := patS_0 ap ak a hk (dp ++ [d]) ks (o ++ [d.tree]) k dn dt dl dk z1 z2 z3 z4 o1 o2 o3 ha (by simpa using hl) (by omega) (by simp; omega)
          simp only [List.append_assoc, List.cons_append, List.nil_append, ed] at e
          refine ⟨at_, ls_l15Patch_0 _ _ _ _ _ _ _ _ _ _ _ _ _ _ _ _ _ _ _ _ ?_, fun out rest h => ?_⟩
          · simp only [Int.toNat_natCast, Dl.avs_get, Dl.av_shape, Dl.av_0, Dl.av_1, Dl.av_2, Dl.av_3, Dl.av_4, Dl.av_5, Dl.avs_len (dp ++ d :: ks), Dl.avs_len d.kids, dlt_true hm, d0_true, Bool.and_self, cond_true, cond_false, g5, decide_true, s30 d.tree hdt, q1, Option.bind_some, Bool.not_true, kids0, q2, not_true_eq_false, decide_false, hc, agg_av, avs_snoc, bnd_eq, ei, e, patchL, if_true]
            cases patchL ak ks <;> rfl
          · simp only [patchL, g5, q1, q2, decide_true, Bool.and_self, if_true] at h
            cases hp : patchL ak ks with
            | none => rw [hp] at h; cases h
            | some r =>
              rw [hp] at h
              simp only [Option.map_some, Option.some.injEq, Prod.mk.injEq] at h
              exact hat r.1 rest (by rw [hp]; congr 1; rw [← h.2])
        · refine ⟨0, ls_l15Patch_0 _ _ _ _ _ _ _ _ _ _ _ _ _ _ _ _ _ _ _ _ ?_, fun out rest h => by simp [patchL, g5, q1, q2] at h⟩
          simp only [Int.toNat_natCast, Dl.avs_get, Dl.av_shape, Dl.av_0, Dl.av_1, Dl.av_2, Dl.av_3, Dl.av_4, Dl.av_5, Dl.avs_len (dp ++ d :: ks), Dl.avs_len d.kids, dlt_true hm, d0_true, Bool.and_self, cond_true, cond_false, g5, decide_true, s30 d.tree hdt, q1, Option.bind_some, Bool.not_true, kids0, q2, not_false_eq_true, decide_false, patchL, if_true, if_false, Bool.and_false, Bool.false_eq_true]
      · refine ⟨0, ls_l15Patch_0 _ _ _ _ _ _ _ _ _ _ _ _ _ _ _ _ _ _ _ _ ?_, fun out rest h => by simp [patchL, g5, q1] at h⟩
        simp only [Int.toNat_natCast, Dl.avs_get, Dl.av_shape, Dl.av_0, Dl.av_1, Dl.av_2, Dl.av_3, Dl.av_4, Dl.av_5, Dl.avs_len (dp ++ d :: ks), Dl.avs_len d.kids, dlt_true hm, d0_true, Bool.and_self, cond_true, g5, decide_true, s30 d.tree hdt, Bool.eq_false_iff.2 q1, Option.bind_some, Bool.not_false, patchL, if_true, if_false, Bool.false_and, Bool.false_eq_true]
    · cases ak with
      | nil =>
        have hz : (a.kids.length : Int) ≤ (ap.length : Int) := by rw [hkl]; simp
        refine ⟨0, ls_l15Patch_0 _ _ _ _ _ _ _ _ _ _ _ _ _ _ _ _ _ _ _ _ ?_, fun out rest h => by simp [patchL, g5] at h⟩
        simp only [Int.toNat_natCast, Dl.avs_get, Dl.av_shape, Dl.av_0, Dl.av_1, Dl.av_2, Dl.av_3, Dl.av_4, Dl.av_5, Dl.avs_len (dp ++ d :: ks), avs_len a.kids, dlt_true hm, d0_true, Bool.and_self, cond_true, cond_false, g5, decide_true, decide_false, hz, patchL, if_false]
      | cons x xs =>
        have hz : ¬ (a.kids.length : Int) ≤ (ap.length : Int) := by rw [hkl]; simp; omega
        have hlt : ap.length < a.kids.length := by rw [hkl]; simp
        have hk2 : a.kids = (ap ++ [x]) ++ xs := by rw [hk]; simp
        have eap : ∀ x : Tr, (ap ++ [x]).length = ap.length + 1 := fun x => by simp
        have ea : IntKind.wrap .i64 ((ap.length : Int) + 1) = ((ap.length + 1 : Nat) : Int) := wrap_succ hlt (by omega)
        by_cases g4 : d.kind = 4
        · by_cases q1 : zeroT d.tree = true
          · by_cases q2 : d.kids.length = 0
            · obtain ⟨at_, e, hat⟩ := patS_0 (ap ++ [x]) xs a hk2 (dp ++ [d]) ks o k dn dt dl dk z1 z2 z3 z4 o1 o2 o3 ha (by simpa using hl) (by omega) (by simp; omega)
              simp only [List.append_assoc, List.cons_append, List.nil_append, ed, eap] at e
              refine ⟨at_, ls_l15Patch_0 _ _ _ _ _ _ _ _ _ _ _ _ _ _ _ _ _ _ _ _ ?_, fun out rest h => hat out rest (by simpa [patchL, g4, q1, q2] using h)⟩
              simp only [Int.toNat_natCast, Dl.avs_get, Dl.av_shape, Dl.av_0, Dl.av_1, Dl.av_2, Dl.av_3, Dl.av_4, Dl.av_5, Dl.avs_len (dp ++ d :: ks), Dl.avs_len d.kids, avs_len a.kids, dlt_true hm, d0_true, Bool.and_self, cond_true, cond_false, g4, show ((4 : Int) = 5) = False from by simp, decide_true, decide_false, hz, zeroS, q1, Option.bind_some, Bool.not_true, q2, Int.natCast_zero, Int.lt_irrefl, ei, ea, e, patchL, if_true, if_false]
            · refine ⟨0, ls_l15Patch_0 _ _ _ _ _ _ _ _ _ _ _ _ _ _ _ _ _ _ _ _ ?_, fun out rest h => by simp [patchL, g4, q1, q2] at h⟩
              simp only [Int.toNat_natCast, Dl.avs_get, Dl.av_shape, Dl.av_0, Dl.av_1, Dl.av_2, Dl.av_3, Dl.av_4, Dl.av_5, Dl.avs_len (dp ++ d :: ks), Dl.avs_len d.kids, avs_len a.kids, dlt_true hm, d0_true, Bool.and_self, cond_true, cond_false, g4, show ((4 : Int) = 5) = False from by simp, decide_true, decide_false, hz, zeroS, q1, Option.bind_some, Bool.not_true, kids0, q2, not_false_eq_true, patchL, if_true, if_false, Bool.and_false, Bool.false_eq_true]
          · refine ⟨0, ls_l15Patch_0 _ _ _ _ _ _ _ _ _ _ _ _ _ _ _ _ _ _ _ _ ?_, fun out rest h => by simp [patchL, g4, q1] at h⟩
            simp only [Int.toNat_natCast, Dl.avs_get, Dl.av_shape, Dl.av_0, Dl.av_1, Dl.av_2, Dl.av_3, Dl.av_4, Dl.av_5, Dl.avs_len (dp ++ d :: ks), Dl.avs_len d.kids, avs_len a.kids, dlt_true hm, d0_true, Bool.and_self, cond_true, cond_false, g4, show ((4 : Int) = 5) = False from by simp, decide_true, decide_false, hz, zeroS, Bool.eq_false_iff.2 q1, Option.bind_some, Bool.not_false, patchL, if_true, if_false, Bool.false_and, Bool.false_eq_true]
        · have hx : sz x ≤ 1048576 := by
            have := szs_mem' (ks := a.kids) (k := x) (by rw [hk]; simp)
            cases a; simp only [Tr.kids] at this; simp only [sz] at ha; omega
          obtain ⟨jn, jt, jl, jk, ep⟩ := patS x d hx (by omega)
          have hgx : (avs a.kids).getD ap.length .und = av x := by rw [hk]; exact avs_get ap xs x
          cases hpo : patchO x d with
          | none =>
            rw [hpo] at ep
            refine ⟨0, ls_l15Patch_0 _ _ _ _ _ _ _ _ _ _ _ _ _ _ _ _ _ _ _ _ ?_, fun out rest h => by simp [patchL, g4, g5, hpo] at h⟩
            simp only [Int.toNat_natCast, Dl.avs_get, Dl.av_shape, Dl.av_0, Dl.av_1, Dl.av_2, Dl.av_3, Dl.av_4, Dl.av_5, Dl.avs_len (dp ++ d :: ks), avs_len a.kids, dlt_true hm, dlt_true hlt, d0_true, Bool.and_self, cond_true, cond_false, g4, g5, decide_true, decide_false, hz, hgx, av_shape, av_0, av_1, av_2, av_3, ep, Option.bind_some, Bool.not_false, patchL, hpo, if_false]
          | some y =>
            rw [hpo] at ep
            obtain ⟨at_, e, hat⟩ := patS_0 (ap ++ [x]) xs a hk2 (dp ++ [d]) ks (o ++ [y]) k dn dt dl dk z1 z2 z3 z4 o1 o2 o3 ha (by simpa using hl) (by omega) (by simp; omega)
            simp only [List.append_assoc, List.cons_append, List.nil_append, ed, eap] at e
            refine ⟨at_, ls_l15Patch_0 _ _ _ _ _ _ _ _ _ _ _ _ _ _ _ _ _ _ _ _ ?_, fun out rest h => ?_⟩
            · simp only [Int.toNat_natCast, Dl.avs_get, Dl.av_shape, Dl.av_0, Dl.av_1, Dl.av_2, Dl.av_3, Dl.av_4, Dl.av_5, Dl.avs_len (dp ++ d :: ks), avs_len a.kids, dlt_true hm, dlt_true hlt, d0_true, Bool.and_self, cond_true, cond_false, g4, g5, decide_true, decide_false, hz, hgx, av_shape, av_0, av_1, av_2, av_3, ep, Option.bind_some, Bool.not_true, hc, agg_av, avs_snoc, bnd_eq, ei, ea, e, patchL, hpo, if_false]
              cases patchL xs ks <;> rfl
            · simp only [patchL, g4, g5, hpo, if_false] at h
              cases hp : patchL xs ks with
              | none => rw [hp] at h; cases h
              | some r =>
                rw [hp] at h
                simp only [Option.map_some, Option.some.injEq, Prod.mk.injEq] at h
                exact hat r.1 rest (by rw [hp]; congr 1; rw [← h.2])
end
mutual
theorem patI : ∀ (a : Tr) (d : Dl), sz a ≤ 1048576 → Dl.sz d ≤ 1048576 → ∃ jn jt jl jk, Fi_patch a.name a.text a.leaf (avs a.kids) d.kind d.tree.name d.tree.text d.tree.leaf (avs d.tree.kids) (Dl.avs d.kids) =
    some (match patchO a d with | some t => (t.name, t.text, t.leaf, avs t.kids, true) | none => (jn, jt, jl, jk, false))
  | a, .mk k t ks, ha, hd => by
    simp only [Dl.sz] at hd
    have hk : sz t ≤ 1048576 := by omega
    have e0 : ((ks.length : Int) = 0) ↔ ks.length = 0 := by omega
    by_cases g1 : k = 1
    · refine ⟨a.name, a.text, a.leaf, avs a.kids, ui_patch _ _ _ _ _ _ _ _ _ _ ?_⟩
      simp only [Dl.kind, Dl.tree, Dl.kids, g1, decide_true, cond_true, zeroI, Option.bind_some, Dl.avs_len, e0, patchO]
      by_cases q1 : zeroT t = true
      · by_cases q2 : ks.length = 0 <;> simp [q1, q2]
      · simp [q1]
    by_cases g2 : k = 2
    · refine ⟨t.name, t.text, t.leaf, avs t.kids, ui_patch _ _ _ _ _ _ _ _ _ _ ?_⟩
      simp only [Dl.kind, Dl.tree, Dl.kids, g2, show ((2 : Int) = 1) = False from by simp, decide_true, decide_false, cond_true, cond_false, s32 t hk, Option.bind_some, Dl.avs_len, e0, patchO]
      by_cases q1 : tokB2 t = true
      · by_cases q2 : ks.length = 0 <;> simp [q1, q2]
      · simp [q1]
    by_cases g3 : k = 3
    · by_cases q0 : a.leaf = true
      · refine ⟨ByteArray.empty, ByteArray.empty, false, [], ui_patch _ _ _ _ _ _ _ _ _ _ ?_⟩
        simp [Dl.kind, g3, q0, patchO]
      by_cases q1 : zeroT t = true
      · obtain ⟨at_, e, hat⟩ := patI_0 [] a.kids a rfl [] ks [] ByteArray.empty ByteArray.empty false [] a.name ByteArray.empty false ha (by simp; omega) (by omega) (by simp)
        simp only [List.nil_append, List.length_nil, Int.natCast_zero, avs] at e
        cases hp : patchL a.kids ks with
        | none =>
          rw [hp] at e
          refine ⟨ByteArray.empty, ByteArray.empty, false, [], ui_patch _ _ _ _ _ _ _ _ _ _ ?_⟩
          simp only [Dl.kind, Dl.tree, Dl.kids, Dl.avs_len, g3, show ((3 : Int) = 1) = False from by simp, show ((3 : Int) = 2) = False from by simp, decide_true, decide_false, cond_true, cond_false, Bool.eq_false_iff.2 q0, zeroI, q1, Option.bind_some, Bool.not_true, patchO, hp, if_true, if_false, Bool.false_eq_true]
          rw [Bool.eq_false_iff.2 q0] at e
          simp only [e, Option.bind_some, Sum.elim_inl, asRoL]
        | some r =>
          obtain ⟨out, rest⟩ := r
          rw [hp] at e
          have e1 : decide (at_ = (a.kids.length : Int)) = decide (rest.length = 0) := by
            have := hat out rest hp
            congr 1; apply propext; omega
          refine ⟨a.name, ByteArray.empty, false, avs out, ui_patch _ _ _ _ _ _ _ _ _ _ ?_⟩
          simp only [Dl.kind, Dl.tree, Dl.kids, Dl.avs_len, g3, show ((3 : Int) = 1) = False from by simp, show ((3 : Int) = 2) = False from by simp, decide_true, decide_false, cond_true, cond_false, Bool.eq_false_iff.2 q0, zeroI, q1, Option.bind_some, Bool.not_true, patchO, hp, if_true, if_false, Bool.false_eq_true]
          rw [Bool.eq_false_iff.2 q0] at e
          simp only [e, Option.bind_some, Sum.elim_inr, avs_len, e1, asRoL_avs]
          by_cases q2 : rest.length = 0 <;> simp [q2, Tr.name, Tr.text, Tr.leaf, Tr.kids]
      · refine ⟨ByteArray.empty, ByteArray.empty, false, [], ui_patch _ _ _ _ _ _ _ _ _ _ ?_⟩
        simp [Dl.kind, Dl.tree, g3, q0, q1, zeroI, patchO]
    · refine ⟨ByteArray.empty, ByteArray.empty, false, [], ui_patch _ _ _ _ _ _ _ _ _ _ ?_⟩
      simp [Dl.kind, g1, g2, g3, patchO]
theorem patI_0 : ∀ (ap ak : List Tr) (a : Tr) (_hk : a.kids = ap ++ ak) (dp ks : List Dl) (o : List Tr) (z1 z2 : ByteArray) (z3 : Bool) (z4 : List AVal) (o1 o2 : ByteArray) (o3 : Bool), sz a ≤ 1048576 → (dp ++ ks).length ≤ 1048576 → Dl.szs ks ≤ 1048576 → o.length ≤ dp.length →
    ∃ at_ : Int, Li_patch_0 (ap.length : Int) (Dl.avs (dp ++ ks)) ((dp ++ ks).length : Int) (dp.length : Int) a.name a.text a.leaf (avs a.kids) z1 z2 z3 z4 o1 o2 o3 (avs o) =
      some (match patchL ak ks with | none => .inl (false, ByteArray.empty, ByteArray.empty, false, []) | some (out, _) => .inr (at_, a.name, a.text, a.leaf, avs a.kids, z1, z2, z3, z4, o1, o2, o3, avs (o ++ out))) ∧
      ∀ out rest, patchL ak ks = some (out, rest) → at_ + rest.length = a.kids.length
  | ap, ak, a, hk, dp, [], o, z1, z2, z3, z4, o1, o2, o3, ha, hl, hs, ho => by
    refine ⟨ap.length, li_patch_0 _ _ _ _ _ _ _ _ _ _ _ _ _ _ _ _ ?_, fun out rest h => ?_⟩
    · simp [Dl.avs_len, patchL]
    · simp only [patchL, Option.some.injEq, Prod.mk.injEq] at h
      obtain ⟨_, rfl⟩ := h
      rw [hk, List.length_append]; omega
  | ap, ak, a, hk, dp, d :: ks, o, z1, z2, z3, z4, o1, o2, o3, ha, hl, hs, ho => by
    simp only [Dl.szs] at hs
    have hl2 : dp.length + (ks.length + 1) ≤ 1048576 := by simpa using hl
    have hm := Dl.lt dp ks d
    have hka := kids_sz' a
    have hkl : a.kids.length = ap.length + ak.length := by rw [hk, List.length_append]
    have hdt : sz d.tree ≤ 1048576 := by cases d; simp only [Dl.sz] at hs; simp only [Dl.tree]; omega
    have hc : capB ((avs o).length + 1) 64 = true := capB_le (by rw [avs_len]; omega)
    have ed : ∀ x : Dl, (dp ++ [x]).length = dp.length + 1 := fun x => by simp
    have ei : IntKind.wrap .i64 ((dp.length : Int) + 1) = ((dp.length + 1 : Nat) : Int) := wrap_succ hm (by omega)
    by_cases g5 : d.kind = 5
    · by_cases q1 : tokB2 d.tree = true
      · by_cases q2 : d.kids.length = 0
        · obtain ⟨at_, e, hat⟩ := patI_0 ap ak a hk (dp ++ [d]) ks (o ++ [d.tree]) z1 z2 z3 z4 o1 o2 o3 ha (by simpa using hl) (by omega) (by simp; omega)
          simp only [List.append_assoc, List.cons_append, List.nil_append, ed] at e
          refine ⟨at_, li_patch_0 _ _ _ _ _ _ _ _ _ _ _ _ _ _ _ _ ?_, fun out rest h => ?_⟩
          · simp only [Int.toNat_natCast, Dl.avs_get, Dl.av_shape, Dl.av_0, Dl.av_1, Dl.av_2, Dl.av_3, Dl.av_4, Dl.av_5, Dl.avs_len (dp ++ d :: ks), Dl.avs_len d.kids, dlt_true hm, d0_true, Bool.and_self, cond_true, cond_false, g5, decide_true, s32 d.tree hdt, q1, Option.bind_some, Bool.not_true, kids0, q2, not_true_eq_false, decide_false, hc, agg_av, avs_snoc, bnd_eq, ei, e, patchL, if_true]
            cases patchL ak ks <;> rfl
          · simp only [patchL, g5, q1, q2, decide_true, Bool.and_self, if_true] at h
            cases hp : patchL ak ks with
            | none => rw [hp] at h; cases h
            | some r =>
              rw [hp] at h
              simp only [Option.map_some, Option.some.injEq, Prod.mk.injEq] at h
              exact hat r.1 rest (by rw [hp]; congr 1; rw [← h.2])
        · refine ⟨0, li_patch_0 _ _ _ _ _ _ _ _ _ _ _ _ _ _ _ _ ?_, fun out rest h => by simp [patchL, g5, q1, q2] at h⟩
          simp only [Int.toNat_natCast, Dl.avs_get, Dl.av_shape, Dl.av_0, Dl.av_1, Dl.av_2, Dl.av_3, Dl.av_4, Dl.av_5, Dl.avs_len (dp ++ d :: ks), Dl.avs_len d.kids, dlt_true hm, d0_true, Bool.and_self, cond_true, cond_false, g5, decide_true, s32 d.tree hdt, q1, Option.bind_some, Bool.not_true, kids0, q2, not_false_eq_true, decide_false, patchL, if_true, if_false, Bool.and_false, Bool.false_eq_true]
      · refine ⟨0, li_patch_0 _ _ _ _ _ _ _ _ _ _ _ _ _ _ _ _ ?_, fun out rest h => by simp [patchL, g5, q1] at h⟩
        simp only [Int.toNat_natCast, Dl.avs_get, Dl.av_shape, Dl.av_0, Dl.av_1, Dl.av_2, Dl.av_3, Dl.av_4, Dl.av_5, Dl.avs_len (dp ++ d :: ks), Dl.avs_len d.kids, dlt_true hm, d0_true, Bool.and_self, cond_true, g5, decide_true, s32 d.tree hdt, Bool.eq_false_iff.2 q1, Option.bind_some, Bool.not_false, patchL, if_true, if_false, Bool.false_and, Bool.false_eq_true]
    · cases ak with
      | nil =>
        have hz : (ap.length : Int) = (a.kids.length : Int) := by rw [hkl]; simp
        refine ⟨0, li_patch_0 _ _ _ _ _ _ _ _ _ _ _ _ _ _ _ _ ?_, fun out rest h => by simp [patchL, g5] at h⟩
        simp only [Int.toNat_natCast, Dl.avs_get, Dl.av_shape, Dl.av_0, Dl.av_1, Dl.av_2, Dl.av_3, Dl.av_4, Dl.av_5, Dl.avs_len (dp ++ d :: ks), avs_len a.kids, dlt_true hm, d0_true, Bool.and_self, cond_true, cond_false, g5, decide_true, decide_false, hz, patchL, if_false]
      | cons x xs =>
        have hz : ¬ (ap.length : Int) = (a.kids.length : Int) := by rw [hkl]; simp; omega
        have hlt : ap.length < a.kids.length := by rw [hkl]; simp
        have hk2 : a.kids = (ap ++ [x]) ++ xs := by rw [hk]; simp
        have eap : ∀ x : Tr, (ap ++ [x]).length = ap.length + 1 := fun x => by simp
        have ea : IntKind.wrap .i64 ((ap.length : Int) + 1) = ((ap.length + 1 : Nat) : Int) := wrap_succ hlt (by omega)
        by_cases g4 : d.kind = 4
        · by_cases q1 : zeroT d.tree = true
          · by_cases q2 : d.kids.length = 0
            · obtain ⟨at_, e, hat⟩ := patI_0 (ap ++ [x]) xs a hk2 (dp ++ [d]) ks o z1 z2 z3 z4 o1 o2 o3 ha (by simpa using hl) (by omega) (by simp; omega)
              simp only [List.append_assoc, List.cons_append, List.nil_append, ed, eap] at e
              refine ⟨at_, li_patch_0 _ _ _ _ _ _ _ _ _ _ _ _ _ _ _ _ ?_, fun out rest h => hat out rest (by simpa [patchL, g4, q1, q2] using h)⟩
              simp only [Int.toNat_natCast, Dl.avs_get, Dl.av_shape, Dl.av_0, Dl.av_1, Dl.av_2, Dl.av_3, Dl.av_4, Dl.av_5, Dl.avs_len (dp ++ d :: ks), Dl.avs_len d.kids, avs_len a.kids, dlt_true hm, d0_true, Bool.and_self, cond_true, cond_false, g4, show ((4 : Int) = 5) = False from by simp, decide_true, decide_false, hz, zeroI, q1, Option.bind_some, Bool.not_true, q2, Int.natCast_zero, Int.lt_irrefl, ei, ea, e, patchL, if_true, if_false]
            · refine ⟨0, li_patch_0 _ _ _ _ _ _ _ _ _ _ _ _ _ _ _ _ ?_, fun out rest h => by simp [patchL, g4, q1, q2] at h⟩
              simp only [Int.toNat_natCast, Dl.avs_get, Dl.av_shape, Dl.av_0, Dl.av_1, Dl.av_2, Dl.av_3, Dl.av_4, Dl.av_5, Dl.avs_len (dp ++ d :: ks), Dl.avs_len d.kids, avs_len a.kids, dlt_true hm, d0_true, Bool.and_self, cond_true, cond_false, g4, show ((4 : Int) = 5) = False from by simp, decide_true, decide_false, hz, zeroI, q1, Option.bind_some, Bool.not_true, kids0, q2, not_false_eq_true, patchL, if_true, if_false, Bool.and_false, Bool.false_eq_true]
          · refine ⟨0, li_patch_0 _ _ _ _ _ _ _ _ _ _ _ _ _ _ _ _ ?_, fun out rest h => by simp [patchL, g4, q1] at h⟩
            simp only [Int.toNat_natCast, Dl.avs_get, Dl.av_shape, Dl.av_0, Dl.av_1, Dl.av_2, Dl.av_3, Dl.av_4, Dl.av_5, Dl.avs_len (dp ++ d :: ks), Dl.avs_len d.kids, avs_len a.kids, dlt_true hm, d0_true, Bool.and_self, cond_true, cond_false, g4, show ((4 : Int) = 5) = False from by simp, decide_true, decide_false, hz, zeroI, Bool.eq_false_iff.2 q1, Option.bind_some, Bool.not_false, patchL, if_true, if_false, Bool.false_and, Bool.false_eq_true]
        · have hx : sz x ≤ 1048576 := by
            have := szs_mem' (ks := a.kids) (k := x) (by rw [hk]; simp)
            cases a; simp only [Tr.kids] at this; simp only [sz] at ha; omega
          obtain ⟨jn, jt, jl, jk, ep⟩ := patI x d hx (by omega)
          have hgx : (avs a.kids).getD ap.length .und = av x := by rw [hk]; exact avs_get ap xs x
          cases hpo : patchO x d with
          | none =>
            rw [hpo] at ep
            refine ⟨0, li_patch_0 _ _ _ _ _ _ _ _ _ _ _ _ _ _ _ _ ?_, fun out rest h => by simp [patchL, g4, g5, hpo] at h⟩
            simp only [Int.toNat_natCast, Dl.avs_get, Dl.av_shape, Dl.av_0, Dl.av_1, Dl.av_2, Dl.av_3, Dl.av_4, Dl.av_5, Dl.avs_len (dp ++ d :: ks), avs_len a.kids, dlt_true hm, dlt_true hlt, d0_true, Bool.and_self, cond_true, cond_false, g4, g5, decide_true, decide_false, hz, hgx, av_shape, av_0, av_1, av_2, av_3, ep, Option.bind_some, Bool.not_false, patchL, hpo, if_false]
          | some y =>
            rw [hpo] at ep
            obtain ⟨at_, e, hat⟩ := patI_0 (ap ++ [x]) xs a hk2 (dp ++ [d]) ks (o ++ [y]) z1 z2 z3 z4 o1 o2 o3 ha (by simpa using hl) (by omega) (by simp; omega)
            simp only [List.append_assoc, List.cons_append, List.nil_append, ed, eap] at e
            refine ⟨at_, li_patch_0 _ _ _ _ _ _ _ _ _ _ _ _ _ _ _ _ ?_, fun out rest h => ?_⟩
            · simp only [Int.toNat_natCast, Dl.avs_get, Dl.av_shape, Dl.av_0, Dl.av_1, Dl.av_2, Dl.av_3, Dl.av_4, Dl.av_5, Dl.avs_len (dp ++ d :: ks), avs_len a.kids, dlt_true hm, dlt_true hlt, d0_true, Bool.and_self, cond_true, cond_false, g4, g5, decide_true, decide_false, hz, hgx, av_shape, av_0, av_1, av_2, av_3, ep, Option.bind_some, Bool.not_true, hc, agg_av, avs_snoc, bnd_eq, ei, ea, e, patchL, hpo, if_false]
              cases patchL xs ks <;> rfl
            · simp only [patchL, g4, g5, hpo, if_false] at h
              cases hp : patchL xs ks with
              | none => rw [hp] at h; cases h
              | some r =>
                rw [hp] at h
                simp only [Option.map_some, Option.some.injEq, Prod.mk.injEq] at h
                exact hat r.1 rest (by rw [hp]; congr 1; rw [← h.2])
end
mutual
theorem patchO_sz : ∀ (a : Tr) (d : Dl) (v : Tr), patchO a d = some v → sz v ≤ sz a + Dl.sz d
  | a, .mk k t ks, v, h => by
    simp only [patchO] at h
    simp only [Dl.sz]
    split at h
    · split at h
      · simp only [Option.some.injEq] at h; subst h; omega
      · cases h
    · split at h
      · split at h
        · simp only [Option.some.injEq] at h; subst h; omega
        · cases h
      · split at h
        · split at h
          · cases h
          · split at h
            · cases hp : patchL a.kids ks with
              | none => rw [hp] at h; cases h
              | some r =>
                obtain ⟨out, rest⟩ := r
                rw [hp] at h
                dsimp only at h
                split at h
                · simp only [Option.some.injEq] at h
                  subst h
                  have := patchL_sz a.kids ks out rest hp
                  cases a
                  simp only [Tr.kids] at this
                  simp only [sz, Tr.name, show ByteArray.empty.size = 0 from rfl]
                  omega
                · cases h
            · cases h
        · cases h
theorem patchL_sz : ∀ (ak : List Tr) (ks : List Dl) (out rest : List Tr), patchL ak ks = some (out, rest) → szs out ≤ szs ak + Dl.szs ks ∧ out.length ≤ ks.length
  | ak, [], out, rest, h => by
    simp only [patchL, Option.some.injEq, Prod.mk.injEq] at h
    obtain ⟨rfl, rfl⟩ := h
    simp [szs]
  | ak, d :: ks, out, rest, h => by
    simp only [patchL] at h
    simp only [Dl.szs, List.length_cons]
    split at h
    · split at h
      · cases hp : patchL ak ks with
        | none => rw [hp] at h; cases h
        | some r =>
          rw [hp] at h
          simp only [Option.map_some, Option.some.injEq, Prod.mk.injEq] at h
          obtain ⟨rfl, _⟩ := h
          have := patchL_sz ak ks r.1 r.2 hp
          have : sz d.tree ≤ Dl.sz d := by cases d; simp only [Dl.tree, Dl.sz]; omega
          simp only [szs, List.length_cons]; omega
      · cases h
    · cases ak with
      | nil => cases h
      | cons x xs =>
        dsimp only at h
        simp only [szs]
        split at h
        · split at h
          · have := patchL_sz xs ks out rest h; omega
          · cases h
        · cases hpo : patchO x d with
          | none => rw [hpo] at h; cases h
          | some y =>
            rw [hpo] at h
            cases hp : patchL xs ks with
            | none => rw [hp] at h; cases h
            | some r =>
              rw [hp] at h
              simp only [Option.map_some, Option.some.injEq, Prod.mk.injEq] at h
              obtain ⟨rfl, _⟩ := h
              have := patchL_sz xs ks r.1 r.2 hp
              have := patchO_sz x d y hpo
              simp only [szs, List.length_cons]; omega
end
/-- no tree -/
def noTr' : Tr := .mk ByteArray.empty ByteArray.empty false []
/-- what Patch gives -/
def patchV (a : Tr) (d : Dl) : Tr × Int :=
  if tokB2 a then (match patchO a d with | some t => if tokB2 t then (t, 0) else (noTr', 3) | none => (noTr', 10)) else (noTr', 1)
theorem patchV_sz (a : Tr) (d : Dl) (hs : sz a + Dl.sz d ≤ 1048576) : sz (patchV a d).1 ≤ 1048576 := by
  unfold patchV
  have z : sz noTr' ≤ 1048576 := by simp [noTr', sz, szs]
  split
  · split
    · rename_i t h
      split
      · exact Nat.le_trans (patchO_sz a d t h) hs
      · exact z
    · exact z
  · exact z
theorem patch_s (a : Tr) (d : Dl) (hs : sz a + Dl.sz d ≤ 1048576) : Fs_Patch a.name a.text a.leaf (avs a.kids) d.kind d.tree.name d.tree.text d.tree.leaf (avs d.tree.kids) (Dl.avs d.kids) = some ((patchV a d).1.name, (patchV a d).1.text, (patchV a d).1.leaf, avs (patchV a d).1.kids, (patchV a d).2) := by
  refine us_Patch _ _ _ _ _ _ _ _ _ _ ?_
  obtain ⟨jn, jt, jl, jk, e⟩ := patS a d (by omega) (by omega)
  simp only [s30 a (by omega), Option.bind_some, e]
  unfold patchV
  by_cases g1 : tokB2 a = true
  · cases h : patchO a d with
    | none => simp [g1, noTr', Tr.name, Tr.text, Tr.leaf, Tr.kids, avs]
    | some t =>
      have ht := Nat.le_trans (patchO_sz a d t h) hs
      simp only [g1, Bool.not_true, cond_false, s30 t ht, Option.bind_some, if_true]
      by_cases g2 : tokB2 t = true
      · simp only [g2, Bool.not_true, cond_false, s93 t ht, Option.bind_some, if_true]
      · simp [g2, noTr', Tr.name, Tr.text, Tr.leaf, Tr.kids, avs]
  · simp [g1, noTr', Tr.name, Tr.text, Tr.leaf, Tr.kids, avs]
theorem patch_i (a : Tr) (d : Dl) (hs : sz a + Dl.sz d ≤ 1048576) : Fi_Patch a.name a.text a.leaf (avs a.kids) d.kind d.tree.name d.tree.text d.tree.leaf (avs d.tree.kids) (Dl.avs d.kids) = some ((patchV a d).1.name, (patchV a d).1.text, (patchV a d).1.leaf, ows (patchV a d).1.kids, (patchV a d).2) := by
  refine ui_Patch _ _ _ _ _ _ _ _ _ _ ?_
  obtain ⟨jn, jt, jl, jk, e⟩ := patI a d (by omega) (by omega)
  simp only [s32 a (by omega), Option.bind_some, e]
  unfold patchV
  by_cases g1 : tokB2 a = true
  · cases h : patchO a d with
    | none => simp [g1, noTr', Tr.name, Tr.text, Tr.leaf, Tr.kids, ows]
    | some t =>
      have ht := Nat.le_trans (patchO_sz a d t h) hs
      simp only [g1, Bool.not_true, cond_false, s32 t ht, Option.bind_some, if_true]
      by_cases g2 : tokB2 t = true
      · simp only [g2, Bool.not_true, cond_false, s96 t ht, Option.bind_some, if_true]
      · simp [g2, noTr', Tr.name, Tr.text, Tr.leaf, Tr.kids, ows]
  · simp [g1, noTr', Tr.name, Tr.text, Tr.leaf, Tr.kids, ows]
theorem dmark (d : Dl) (k : Int) (h : Dl.sz d ≤ 1048576) (h0 : 0 ≤ k) (h1 : k ≤ 1000000000) : ∃ l1 l2, Fl_markDelta d.kind d.tree.name d.tree.text d.tree.leaf k (ows d.tree.kids) (Dl.ows d.kids) = some (k + 3 * cnts d.tree.kids + nds d.kids, l1, l2) := by
  cases d with
  | mk kd t ks =>
    simp only [Dl.sz] at h
    have c1 := kids_cnt t (by omega)
    have c2 := nds_sz ks
    obtain ⟨l, e⟩ := dmk ks (k + 3 * cnts t.kids) (by omega) (by omega) (by omega)
    exact ⟨_, l, ul_markDelta _ _ _ _ _ _ _ (by simp only [Dl.tree, Dl.kids, s52 t (by omega) k h0 h1, Option.bind_some, e]; rfl)⟩
theorem lawPa (a : Tr) (d : Dl) (hw : wf a) (hd : Dl.wf d) : Fl_FnExactPatch a.name a.text a.leaf (avs a.kids) d.kind d.tree.name d.tree.text d.tree.leaf (avs d.tree.kids) (Dl.avs d.kids) = some true := by
  refine ul_FnExactPatch _ _ _ _ _ _ _ _ _ _ ?_
  simp only [s29 a 1048576 hw (by omega) (by omega), Option.bind_some]
  by_cases g : szR 1048576 (sz a) < 0
  · simp only [g, decide_true, cond_true]
  have gl := szR_le _ _ g
  have ha : sz a ≤ 1048576 := by have := szR_nn g; omega
  simp only [g, decide_false, cond_false, dsz d _ hd gl.1 gl.2, Option.bind_some]
  by_cases g' : szR (szR 1048576 (sz a)) (Dl.sz d) < 0
  · simp only [g', decide_true, cond_true]
  have hs : sz a + Dl.sz d ≤ 1048576 := by
    rw [szR_step g] at g'
    have := szR_nn g'; omega
  have hds : Dl.sz d ≤ 1048576 := by omega
  have hv := patchV_sz a d hs
  have c1 := kids_cnt a ha
  have c2 := kids_cnt _ hv
  have c3 : cnts d.tree.kids ≤ 1048576 := kids_cnt d.tree (by cases d; simp only [Dl.sz] at hds; simp only [Dl.tree]; omega)
  obtain ⟨l1, l2, em⟩ := dmark d (1 + 3 * cnts a.kids) hds (by omega) (by omega)
  have q1 : ¬ ((1 : Int) + 3 * (cnts a.kids : Int) + 3 * (cnts d.tree.kids : Int) + (nds d.kids : Int) < 0) := by omega
  have q2 : ¬ ((1 : Int) + 3 * (cnts (patchV a d).1.kids : Int) < 0) := by omega
  simp only [g', decide_false, cond_false, s31 a ha, dto d hds, asRoL_ows, Dl.asRoL_ows, patch_s a d hs, patch_i a d hs, noRo_ow, Bool.and_self, cond_true, s33 a ha, s33 _ hv, Option.bind_some, Bool.not_true, decide_true, deq d hds, s52 a ha 1 (by omega) (by omega), em, q1, s52 _ hv 1 (by omega) (by omega), s53 _ hv 1 (by omega) (by omega), q2]
theorem dls_of : ∀ {xs : List AVal}, (∀ y ∈ xs, ∃ r : Dl, y = Dl.av r ∧ Dl.wf r) → ∃ ks : List Dl, xs = Dl.avs ks ∧ Dl.wfs ks
  | [], _ => ⟨[], by simp [Dl.avs], by simp [Dl.wfs]⟩
  | y :: ys, h => by
    obtain ⟨r, rfl, hr⟩ := h y (by simp)
    obtain ⟨ks, rfl, hk⟩ := dls_of (xs := ys) fun z hz => h z (by simp [hz])
    exact ⟨r :: ks, by simp [Dl.avs], by simp [Dl.wfs, hr, hk]⟩
theorem fit_dl : ∀ (n : Nat) (x : AVal), SizeOf.sizeOf x < n → Fits ctx ty_laws_Delta x → ∃ r : Dl, x = Dl.av r ∧ Dl.wf r
  | 0, x, hn, _ => by omega
  | n + 1, x, hn, h => by
    obtain ⟨fs, rfl, g⟩ := h.struct' (us := [ty_int, ty_laws_Tree, ty_S_laws_Delta]) (by kernel_rfl)
    obtain ⟨a, r, rfl, g1, g⟩ := g.cons'
    obtain ⟨b, r, rfl, g2, g⟩ := g.cons'
    obtain ⟨c, r, rfl, g3, g⟩ := g.cons'
    obtain rfl := g.nil'
    obtain ⟨k, rfl, _⟩ := g1.int' (k := .i64) (by kernel_rfl)
    obtain ⟨t, rfl, w2⟩ := fit_tree _ b (Nat.lt_succ_self _) g2
    obtain ⟨xs, rfl, w3, w4⟩ := g3.slice' (sz := 6) (e := ty_laws_Delta) (by kernel_rfl)
    obtain ⟨nm, tx, lf, qs⟩ := t
    have ef : List.flatMap AVal.cells [.int .i64 k, av (.mk nm tx lf qs), .ro false 6 xs] = [.int .i64 k, .str nm, .str tx, .bool lf, .ro false 4 (avs qs), .ro false 6 xs] := by simp only [av]; rfl
    rw [ef] at hn ⊢
    obtain ⟨ks, rfl, hk⟩ := dls_of (xs := xs) fun y hy => fit_dl n y (by
      have := List.sizeOf_lt_of_mem hy
      simp at hn
      omega) (w4 y hy)
    refine ⟨.mk k (.mk nm tx lf qs) ks, by simp [Dl.av, Tr.name, Tr.text, Tr.leaf, Tr.kids], ?_⟩
    rw [Dl.avs_len] at w3
    simp only [Dl.wf]
    exact ⟨w2, w3, hk⟩
theorem lawPatch : ∀ xs, FitsL ctx [ty_laws_Tree, ty_laws_Delta] xs → ∃ k, vcall ctx k n_l_FnExactPatch xs [] = some ([.bool true], []) := by
  intro xs h
  obtain ⟨x, r, rfl, h1, h⟩ := h.cons'
  obtain ⟨y, r, rfl, h2, h⟩ := h.cons'
  obtain rfl := h.nil'
  obtain ⟨t, rfl, hw⟩ := fit_tree _ x (Nat.lt_succ_self _) h1
  obtain ⟨d, rfl, hd⟩ := fit_dl _ y (Nat.lt_succ_self _) h2
  obtain ⟨n, x, l, ks⟩ := t
  obtain ⟨k, ⟨n', x', l', ks'⟩, qs⟩ := d
  exact law_of (S := sgl_FnExactPatch) (a := (n, x, l, avs ks, k, n', x', l', avs ks', Dl.avs qs)) (lawPa (.mk n x l ks) (.mk k (.mk n' x' l' ks') qs) hw hd) (by simp only [av, Dl.av]; rfl) rfl
end Go.Proofs.Ytfniojpjlachoaa
