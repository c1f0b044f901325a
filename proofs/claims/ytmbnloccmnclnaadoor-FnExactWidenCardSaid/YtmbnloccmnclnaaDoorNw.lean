/- What strings.Builder's methods do, walked at this program; under Go's own limit of a text's length. -/
import Derived.Test.YtmbnloccmnclnaaDoorNb
import Derived.Test.YtmbnloccmnclnaaDoorProg
import Derived.Test.YtmbnloccmnclnaaDoorShelf
import Derived.WalkKit
import Derived.Tactics
import Derived.Laws.IdiomCopy
import Derived.Laws.BitsLemmas
namespace Go.Proofs.YtmbnloccmnclnaaDoor
open Go.VK Go.RowKit
set_option linter.unusedVariables false
set_option linter.unusedSimpArgs false
section
variable {w w' : World}
theorem szB : ∃ j, Tryd.prog.info? 122 = some j ∧ j.size = 2 := by
  have h : (Tryd.prog.info? 122).map (·.size) = some 2 := by kernel_rfl
  exact Option.map_eq_some_iff.1 h
theorem liesB : liesAt Tryd.prog Tryd.prog.depth 122 (2 / Tryd.prog.cellsOf 122) 0 122 1 = true := by kernel_rfl
theorem infoB : (Tryd.prog.info? 5).map (fun i => (i.zero, i.size, i.bytes)) = some (some (.int .u8 0), 1, 1) := by kernel_rfl
set_option maxHeartbeats 1000000 in
set_option maxRecDepth 100000 in
theorem check_used (b : Nat) (h0 : w.cell? ⟨b, 0, none⟩ = some (selfP b)) : Calls Tryd.prog 92 #[selfP b] w fun e w' => e = .returned (.tuple #[]) ∧ w' = w := by
  obtain ⟨j, hj, _⟩ := szB
  go_enter Tryd.func92, Tryd.ntmps92
  go_wp2
  rw [Lib.run_neq_ptr_same w _ Tryd.underlying119 hj]
  go_wp2
  go_end0
  exact ⟨rfl, rfl⟩
set_option maxHeartbeats 1000000 in
set_option maxRecDepth 100000 in
theorem check_fresh (b : Nat) (h0 : w.cell? ⟨b, 0, none⟩ = some (.pointer none)) (hsh : w.shape? b = some (122, 2)) (hfz : w.frozen? ⟨b, 0, none⟩ = false) :
    Calls Tryd.prog 92 #[selfP b] w fun e w' => e = .returned (.tuple #[]) ∧ w' = w.setCell ⟨b, 0, none⟩ (selfP b) := by
  obtain ⟨j, hj, hjs⟩ := szB
  go_enter Tryd.func92, Tryd.ntmps92
  go_wp2
  rw [Lib.run_to_unsafe w ⟨b, 0, none⟩ Tryd.underlying119 Tryd.underlying144 hj (by rw [hjs]; decide) hsh (Nat.zero_lt_succ 1)]
  simp only [Result.andThen]
  rw [Oper.upon_value]
  go_wp2
  rw [run_callFunc_extern Tryd.func98 (by kernel_rfl) (by kernel_rfl) (by kernel_rfl) (e := Extern.AbiNoEscape.same) (by kernel_rfl)]
  rw [Lib.run_noEscape]
  simp only [Result.andThen]
  rw [Oper.upon_value]
  go_wp2
  rw [Lib.run_from_unsafe w ⟨b, 0, none⟩ Tryd.underlying144 Tryd.underlying119 hj hsh liesB]
  simp only [Result.andThen]
  rw [Oper.upon_value]
  go_wp2
  go_end0
  exact ⟨rfl, rfl⟩
theorem check_ok {b : Nat} {s : ByteArray} {p v : Value} (h : BldW 122 5 b s p v w) (hp : p = .pointer none ∨ p = selfP b) :
    Calls Tryd.prog 92 #[selfP b] w fun e w' => e = .returned (.tuple #[]) ∧ BldW 122 5 b s (selfP b) v w' ∧ Only w w' (· = b) := by
  rcases hp with rfl | rfl
  · refine (check_fresh b h.at.cell0 h.at.shape h.at.frozen0).mono ?_
    rintro e w' ⟨rfl, rfl⟩
    exact ⟨rfl, h.put0 _, (Only.refl w (· = b)).setCell (a := ⟨b, 0, none⟩) rfl _⟩
  · refine (check_used b h.at.cell0).mono ?_
    rintro e w' ⟨rfl, rfl⟩
    exact ⟨rfl, h, Only.refl w' _⟩

set_option maxHeartbeats 2000000 in
set_option maxRecDepth 100000 in
theorem writeString_ok : CtrWS Tryd.prog 77 122 5 := by
  intro w b s z p v h hp hlen
  obtain ⟨i0, hi, hz0, hz1, hz2⟩ := info_parts infoB
  go_enter Tryd.func77, Tryd.ntmps77
  go_wp2_with (go_at_call 92; refine (check_ok h hp).mono ?_)
  rintro e w1 ⟨rfl, h1, o1⟩
  have c0 : w1.cell? ⟨b, 0, none⟩ = some (.pointer (some ⟨b, 0, none⟩)) := h1.at.cell0
  have c1 : w1.cell? ⟨b, 1, none⟩ = some v := by rw [Lib.cell_of_heap h1.blk]; rfl
  have hlt : b < w1.heap.size := (Array.getElem?_eq_some_iff.1 h1.blk).1
  go_wp2_with (at_builtin; refine wpList_app rfl _ _ (t := 120) (u := 9) (e := 5) rfl Tryd.underlying120 hi hz0 hz1 hz2 rfl rfl h1.own (Src.ofString w1 Tryd.underlying9 z) hlen ?_)
  intro v' w2 hown' hgrow hv'
  have hne' : v'.ownBlock ≠ some b := by
    rcases hv' with hv' | hv'
    · rw [hv']; exact h1.ne
    · rw [hv']; simp; omega
  have hb2 : w2.heap[b]? = some (.cells #[selfP b, v] 122 (0, 0)) := by
    rw [hgrow.block b hlt (fun e => h1.ne e.symm)]; exact h1.blk
  have d0 : w2.cell? ⟨b, 0, none⟩ = some (.pointer (some ⟨b, 0, none⟩)) := by rw [Lib.cell_of_heap hb2]; rfl
  have d1 : w2.cell? ⟨b, 1, none⟩ = some v := by rw [Lib.cell_of_heap hb2]; rfl
  have f1 : w2.frozen? ⟨b, 1, none⟩ = false := Lib.frozen_of_heap hb2 1
  obtain ⟨ao, n', cap, rfl⟩ : ∃ ao n' cap, v' = .slice ao n' cap := by
    rcases hown'.2 with ⟨hv, _⟩ | ⟨g, cap, cur, hv, _⟩
    · exact ⟨_, _, _, hv⟩
    · exact ⟨_, _, _, hv⟩
  go_wp2
  go_ret2
  refine ⟨rfl, _, BldW.put1 hb2 (by rw [strCells_append, ByteArray.size_append]; exact hown') hne', ?_, ?_⟩
  · exact ((o1.wider (fun k hk => .inl hk)).grown hgrow fun k hk => .inl (.inr hk)).setCell (a := ⟨b, 1, none⟩) (.inl rfl) _
  · rcases hv' with hv' | hv'
    · exact .inl hv'
    · exact .inr fun k hk => by have := o1.size; rw [hv'] at hk; simp at hk; omega

set_option maxHeartbeats 2000000 in
set_option maxRecDepth 100000 in
theorem writeByte_ok : CtrWB Tryd.prog 79 122 5 := by
  intro w b s c p v h hp hlen hc0 hc1
  have hpush : Lib.strCells (s.push c.toNat.toUInt8) = Lib.strCells s ++ [.int .u8 c] := by
    unfold Lib.strCells
    simp only [ByteArray.push, Array.toList_push, List.map_append, List.map_cons, List.map_nil]
    congr 2
    simp only [Nat.toUInt8, UInt8.toNat_ofNat']
    have : c.toNat % 2 ^ 8 = c.toNat := Nat.mod_eq_of_lt (by omega)
    rw [this]
    congr 1; omega
  have hps : (s.push c.toNat.toUInt8).size = s.size + 1 := by simp [ByteArray.size_push]
  obtain ⟨i0, hi, hz0, hz1, hz2⟩ := info_parts infoB
  go_enter Tryd.func79, Tryd.ntmps79
  go_wp2_with (go_at_call 92; refine (check_ok h hp).mono ?_)
  rintro e w1 ⟨rfl, h1, o1⟩
  have c0 : w1.cell? ⟨b, 0, none⟩ = some (.pointer (some ⟨b, 0, none⟩)) := h1.at.cell0
  have c1 : w1.cell? ⟨b, 1, none⟩ = some v := by rw [Lib.cell_of_heap h1.blk]; rfl
  have hlt : b < w1.heap.size := (Array.getElem?_eq_some_iff.1 h1.blk).1
  go_wp2_with (at_builtin; refine wpList_app rfl _ _ (t := 120) (u := 120) (e := 5) rfl Tryd.underlying120 hi hz0 hz1 hz2 rfl rfl (h1.own.alloc _) (Src.ofSlice _ Tryd.underlying120 ⟨w1.heap.size, 0, none⟩ 1 1 [.int .u8 c] rfl ?c1 ?c2) hlen ?_)
  case c1 =>
    intro j u hj
    match j, hj with
    | 0, hj => simp at hj; subst hj; simp [Addr.add]
  case c2 => intro u hu; simp at hu; subst hu; rfl
  intro v' w2 hown' hgrow hv'
  have hne' : v'.ownBlock ≠ some b := by
    rcases hv' with hv' | hv'
    · rw [hv']; exact h1.ne
    · rw [hv']; simp; omega
  have hb2 : w2.heap[b]? = some (.cells #[selfP b, v] 122 (0, 0)) := by
    rw [hgrow.block b (by simp; omega) (fun e => h1.ne e.symm), Lib.alloc_old w1 _ b hlt]; exact h1.blk
  have d0 : w2.cell? ⟨b, 0, none⟩ = some (.pointer (some ⟨b, 0, none⟩)) := by rw [Lib.cell_of_heap hb2]; rfl
  have d1 : w2.cell? ⟨b, 1, none⟩ = some v := by rw [Lib.cell_of_heap hb2]; rfl
  have f1 : w2.frozen? ⟨b, 1, none⟩ = false := Lib.frozen_of_heap hb2 1
  obtain ⟨ao, n', cap, rfl⟩ : ∃ ao n' cap, v' = .slice ao n' cap := by
    rcases hown'.2 with ⟨hv, _⟩ | ⟨g, cap, cur, hv, _⟩
    · exact ⟨_, _, _, hv⟩
    · exact ⟨_, _, _, hv⟩
  go_wp2
  go_ret
  refine ⟨rfl, _, BldW.put1 hb2 (by rw [hpush, hps]; exact hown') hne', ?_, ?_⟩
  · exact (((o1.wider (fun k hk => .inl hk)).alloc _).grown hgrow fun k hk => .inl (.inr hk)).setCell (a := ⟨b, 1, none⟩) (.inl rfl) _
  · rcases hv' with hv' | hv'
    · exact .inl hv'
    · exact .inr fun k hk => by have := o1.size; rw [hv'] at hk; simp at hk; omega

theorem cellsY : Tryd.prog.cellsOf 5 = 1 := by kernel_rfl
set_option maxHeartbeats 2000000 in
set_option maxRecDepth 100000 in
theorem stringSome_ok {b : Nat} {s : ByteArray} {p v : Value} (h : BldW 122 5 b s p v w) (h0 : s.size ≠ 0) :
    Calls Tryd.prog 80 #[selfP b] w fun e w' => e = .returned (.string s) ∧ Only w w' (fun k => v.ownBlock = some k) := by
  obtain ⟨l, rfl⟩ : ∃ l : List UInt8, s = ⟨l.toArray⟩ := ⟨s.data.toList, by simp⟩
  have hll : (⟨l.toArray⟩ : ByteArray).size = l.length := by simp [ByteArray.size]
  rw [hll] at h0
  have hl0 : l ≠ [] := by rintro rfl; simp at h0
  have hbk := h.blk
  have hown := h.own
  rw [hll] at hown
  have hcl : Lib.strCells ⟨l.toArray⟩ = Lib.byteCells l := by simp [Lib.strCells, Lib.byteCells]
  rw [hcl] at hown
  obtain ⟨g, cap, cur, rfl, hbg, hg, hnc, hcm, hcs, htake⟩ : ∃ g cap cur, v = .slice (some ⟨g, 0, none⟩) l.length cap ∧ 0 ≤ g ∧ w.heap[g]? = some (.cells cur 5 (0, 0)) ∧ l.length ≤ cap ∧ cap ≤ maxLen ∧ cur.size = cap * 1 ∧ cur.toList.take (l.length * 1) = Lib.byteCells l := by
    rcases hown.2 with ⟨_, hz⟩ | ⟨g, cap, cur, hv, r⟩
    · exact absurd hz h0
    · exact ⟨g, cap, cur, hv, r⟩
  have c1 : w.drew.cell? ⟨b, 1, none⟩ = some (.slice (some ⟨g, 0, none⟩) l.length cap) := by
    have : w.drew.heap[b]? = some (.cells #[p, .slice (some ⟨g, 0, none⟩) l.length cap] 122 (0, 0)) := hbk
    rw [Lib.cell_of_heap this]; rfl
  have hSD : (Builtin.unsafeSliceData_ #[120] 140 #[.slice (some ⟨g, 0, none⟩) l.length cap]).run Tryd.prog w.drew = .ok (.pointer (some ⟨g, 0, none⟩)) w.drew :=
    Lib.run_unsafeSliceData_row _ _ _ _ _ _ (by omega)
  have hUS : (Builtin.unsafeString_ #[140, 3] 9 #[.pointer (some ⟨g, 0, none⟩), .int .i64 l.length]).run Tryd.prog w.drew = .ok (.string ⟨l.toArray⟩) (w.drew.freeze ⟨g, 0, none⟩ l.length) := by
    refine Lib.run_unsafeString_row w.drew 140 3 9 5 Tryd.underlying140 cellsY g cur.size (by have hg' : w.drew.heap[g]? = some (.cells cur 5 (0, 0)) := hg; simp [World.shape?, hg']) l hl0 (by omega) (by unfold maxLen at hcm; omega) ?_
    intro j x hx
    have := hown.cells (g := g) rfl j (.int .u8 x.toNat) (by simp [Lib.byteCells, hx])
    exact this
  have o0 : Only w w.drew (fun k => (Value.slice (some ⟨g, 0, none⟩) l.length cap).ownBlock = some k) := ⟨rfl, rfl, rfl, Nat.le_refl _, fun _ _ _ => rfl⟩
  go_enter Tryd.func80, Tryd.ntmps80
  go_wp2
  go_region
  all_goals (go_wp2; go_ret; exact ⟨rfl, o0.frozen (a := ⟨g, 0, none⟩) rfl _⟩)
theorem unsafe_none (W : World) (q : Option Addr) : (Builtin.unsafeString_ #[140, 3] 9 #[.pointer q, .int .i64 0]).run Tryd.prog W = .ok (.string .empty) W :=
  Lib.run_unsafeString_none W _ _ _ q
set_option maxHeartbeats 2000000 in
set_option maxRecDepth 100000 in
theorem string_nil {S : Nat → Prop} {b : Nat} {p : Value} (hbk : w.heap[b]? = some (.cells #[p, .slice none 0 0] 122 (0, 0))) :
    Calls Tryd.prog 80 #[selfP b] w fun e w' => e = .returned (.string ⟨#[]⟩) ∧ Only w w' S := by
  have hUS := unsafe_none
  have c1 : w.drew.cell? ⟨b, 1, none⟩ = some (.slice none 0 0) := by
    have : w.drew.heap[b]? = some (.cells #[p, .slice none 0 0] 122 (0, 0)) := hbk
    rw [Lib.cell_of_heap this]; rfl
  have hSD : (Builtin.unsafeSliceData_ #[120] 140 #[.slice none 0 0]).run Tryd.prog w.drew = .ok (.pointer none) w.drew := rfl
  have o0 : Only w w.drew S := ⟨rfl, rfl, rfl, Nat.le_refl _, fun _ _ _ => rfl⟩
  go_enter Tryd.func80, Tryd.ntmps80
  go_wp2
  go_region
  all_goals (go_wp2; go_ret; exact ⟨rfl, o0⟩)
set_option maxHeartbeats 2000000 in
set_option maxRecDepth 100000 in
theorem string_noroom {S : Nat → Prop} {b g : Nat} {p : Value} {cur : Array Value} (hbk : w.heap[b]? = some (.cells #[p, .slice (some ⟨g, 0, none⟩) 0 0] 122 (0, 0))) (hg : w.heap[g]? = some (.cells cur 5 (0, 0))) :
    Calls Tryd.prog 80 #[selfP b] w fun e w' => e = .returned (.string ⟨#[]⟩) ∧ Only w w' S := by
  have hUS := unsafe_none
  have hlt : b < w.heap.size := (Array.getElem?_eq_some_iff.1 hbk).1
  have c1 : w.drew.cell? ⟨b, 1, none⟩ = some (.slice (some ⟨g, 0, none⟩) 0 0) := by
    have : w.drew.heap[b]? = some (.cells #[p, .slice (some ⟨g, 0, none⟩) 0 0] 122 (0, 0)) := hbk
    rw [Lib.cell_of_heap this]; rfl
  have hSD : (Builtin.unsafeSliceData_ #[120] 140 #[.slice (some ⟨g, 0, none⟩) 0 0]).run Tryd.prog w.drew = .ok (.pointer (some ⟨w.drew.heap.size, 0, none⟩)) (w.drew.alloc (.view ⟨g, 0, none⟩ 5)) :=
    Lib.run_unsafeSliceData_zero w.drew _ _ 5 Tryd.underlying140 ⟨g, 0, none⟩ 0 (5, cur.size) (by have hg' : w.drew.heap[g]? = some (.cells cur 5 (0, 0)) := hg; simp [World.shape?, hg'])
  have c2 : (w.drew.alloc (.view ⟨g, 0, none⟩ 5)).cell? ⟨b, 1, none⟩ = some (.slice (some ⟨g, 0, none⟩) 0 0) := by
    have : (w.drew.alloc (.view ⟨g, 0, none⟩ 5)).heap[b]? = _ := (Lib.alloc_old w.drew _ b hlt).trans hbk
    rw [Lib.cell_of_heap this]; rfl
  have c3 : (w.alloc (.view ⟨g, 0, none⟩ 5)).drew.cell? ⟨b, 1, none⟩ = some (.slice (some ⟨g, 0, none⟩) 0 0) := c2
  have c4 : w.cell? ⟨b, 1, none⟩ = some (.slice (some ⟨g, 0, none⟩) 0 0) := c1
  have o0 : Only w w.drew S := ⟨rfl, rfl, rfl, Nat.le_refl _, fun _ _ _ => rfl⟩
  go_enter Tryd.func80, Tryd.ntmps80
  go_wp2
  go_region
  all_goals (go_wp2; go_ret; exact ⟨rfl, o0.alloc _⟩)
set_option maxHeartbeats 2000000 in
set_option maxRecDepth 100000 in
theorem string_room {S : Nat → Prop} {b g cap : Nat} {p : Value} (hc0 : cap ≠ 0) (hbk : w.heap[b]? = some (.cells #[p, .slice (some ⟨g, 0, none⟩) 0 cap] 122 (0, 0))) :
    Calls Tryd.prog 80 #[selfP b] w fun e w' => e = .returned (.string ⟨#[]⟩) ∧ Only w w' S := by
  have hUS := unsafe_none
  have c1 : w.drew.cell? ⟨b, 1, none⟩ = some (.slice (some ⟨g, 0, none⟩) 0 cap) := by
    have : w.drew.heap[b]? = some (.cells #[p, .slice (some ⟨g, 0, none⟩) 0 cap] 122 (0, 0)) := hbk
    rw [Lib.cell_of_heap this]; rfl
  have hSD : (Builtin.unsafeSliceData_ #[120] 140 #[.slice (some ⟨g, 0, none⟩) 0 cap]).run Tryd.prog w.drew = .ok (.pointer (some ⟨g, 0, none⟩)) w.drew :=
    Lib.run_unsafeSliceData_row _ _ _ _ _ _ hc0
  clear hc0
  have o0 : Only w w.drew S := ⟨rfl, rfl, rfl, Nat.le_refl _, fun _ _ _ => rfl⟩
  go_enter Tryd.func80, Tryd.ntmps80
  go_wp2
  go_region
  all_goals (go_wp2; go_ret; exact ⟨rfl, o0⟩)
theorem string_ok : CtrST Tryd.prog 80 122 5 := by
  intro w b s p v h
  by_cases h0 : s.size = 0
  · have hs : s = ⟨#[]⟩ := by
      cases s with
      | mk d => congr 1; exact Array.eq_empty_of_size_eq_zero h0
    rcases h.own.2 with ⟨rfl, _⟩ | ⟨g, cap, cur, rfl, hbg, hg, _, _, _, _⟩
    · rw [hs]; exact string_nil h.blk
    · have hbk := h.blk
      rw [h0] at hbk ⊢
      rw [hs]
      by_cases hc0 : cap = 0
      · subst hc0
        exact string_noroom hbk hg
      · exact string_room hc0 hbk
  · exact stringSome_ok h h0

theorem itoa_ok : CtrIT Tryd.prog 93 := fun n w h0 h1 ht => Tryd.strconv_Itoa n h0 h1 w ht
end
end Go.Proofs.YtmbnloccmnclnaaDoor
