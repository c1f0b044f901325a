/- What strings.Builder's methods do, walked at this program; under Go's own limit of a text's length. -/
import Derived.Test.YtnbpmjfemeeecaaNb
import Derived.Test.YtnbpmjfemeeecaaProg
import Derived.Test.YtnbpmjfemeeecaaNr
import Derived.Test.YtnbpmjfemeeecaaShelf
import Derived.WalkKit
import Derived.Tactics
import Derived.Laws.IdiomCopy
import Derived.Laws.BitsLemmas
namespace Go.Proofs.Ytnbpmjfemeeecaa
open Go.VK Go.RowKit
set_option linter.unusedVariables false
set_option linter.unusedSimpArgs false
section
variable {w w':World}
theorem szB : ∃j,Try.prog.info? 206=some j∧j.size=2:=by
 have h:(Try.prog.info? 206).map (·.size)=some 2:=by kernel_rfl
 exact Option.map_eq_some_iff.1 h
theorem liesB:liesAt Try.prog Try.prog.depth 206 (2 / Try.prog.cellsOf 206) 0 206 1=true:=by kernel_rfl
theorem infoB:(Try.prog.info? 5).map (fun i=>(i.zero,i.size,i.bytes))=some (some (.int .u8 0),1,1):=by kernel_rfl
set_option maxHeartbeats 1000000 in
set_option maxRecDepth 100000 in
theorem check_used (b:Nat) (h0:w.cell? ⟨b,0,none⟩=some (selfP b)):Calls Try.prog 188 #[selfP b] w fun e w'=>e=.returned (.tuple #[])∧w'=w:=by
 obtain ⟨j,hj,_⟩:=szB
 go_enter Try.func188,Try.ntmps188
 go_wp2
 rw [Lib.run_neq_ptr_same w _ Try.underlying204 hj]
 go_wp2
 go_end0
 exact ⟨rfl,rfl⟩
set_option maxHeartbeats 1000000 in
set_option maxRecDepth 100000 in
theorem check_fresh (b:Nat) (h0:w.cell? ⟨b,0,none⟩=some (.pointer none)) (hsh:w.shape? b=some (206,2)) (hfz:w.frozen? ⟨b,0,none⟩=false) :
 Calls Try.prog 188 #[selfP b] w fun e w'=>e=.returned (.tuple #[])∧w'=w.setCell ⟨b,0,none⟩ (selfP b):=by
 obtain ⟨j,hj,hjs⟩:=szB
 go_enter Try.func188,Try.ntmps188
 go_wp2
 rw [Lib.run_to_unsafe w ⟨b,0,none⟩ Try.underlying204 Try.underlying287 hj (by rw [hjs];decide) hsh (Nat.zero_lt_succ 1)]
 simp only [Result.andThen]
 rw [Oper.upon_value]
 go_wp2
 rw [run_callFunc_extern Try.func211 (by kernel_rfl) (by kernel_rfl) (by kernel_rfl) (e:=Extern.AbiNoEscape.same) (by kernel_rfl)]
 rw [Lib.run_noEscape]
 simp only [Result.andThen]
 rw [Oper.upon_value]
 go_wp2
 rw [Lib.run_from_unsafe w ⟨b,0,none⟩ Try.underlying287 Try.underlying204 hj hsh liesB]
 simp only [Result.andThen]
 rw [Oper.upon_value]
 go_wp2
 go_end0
 exact ⟨rfl,rfl⟩
theorem check_ok {b:Nat} {s:ByteArray} {p v:Value} (h:BldW 206 5 b s p v w) (hp:p=.pointer none∨p=selfP b) :
 Calls Try.prog 188 #[selfP b] w fun e w'=>e=.returned (.tuple #[])∧BldW 206 5 b s (selfP b) v w'∧Only w w' (· = b):=by
 rcases hp with rfl|rfl
 · refine (check_fresh b h.at.cell0 h.at.shape h.at.frozen0).mono ?_
   rintro e w' ⟨rfl,rfl⟩
   exact ⟨rfl,h.put0 _,(Only.refl w (· = b)).setCell (a:=⟨b,0,none⟩) rfl _⟩
 · refine (check_used b h.at.cell0).mono ?_
   rintro e w' ⟨rfl,rfl⟩
   exact ⟨rfl,h,Only.refl w' _⟩
set_option maxHeartbeats 2000000 in
set_option maxRecDepth 100000 in
theorem writeString_ok:CtrWS Try.prog 140 206 5:=by
 intro w b s z p v h hp hlen
 obtain ⟨i0,hi,hz0,hz1,hz2⟩:=info_parts infoB
 go_enter Try.func140,Try.ntmps140
 go_wp2_with (go_at_call 188;refine (check_ok h hp).mono ?_)
 rintro e w1 ⟨rfl,h1,o1⟩
 have c0:w1.cell? ⟨b,0,none⟩=some (.pointer (some ⟨b,0,none⟩)):=h1.at.cell0
 have c1:w1.cell? ⟨b,1,none⟩=some v:=by rw [Lib.cell_of_heap h1.blk];rfl
 have hlt:b<w1.heap.size:=(Array.getElem?_eq_some_iff.1 h1.blk).1
 go_wp2_with (at_builtin;refine wpList_app rfl _ _ (t:=199) (u:=9) (e:=5) rfl Try.underlying199 hi hz0 hz1 hz2 rfl rfl h1.own (Src.ofString w1 Try.underlying9 z) hlen ?_)
 intro v' w2 hown' hgrow hv'
 have hne':v'.ownBlock≠some b:=by
  rcases hv' with hv'|hv'
  · rw [hv'];exact h1.ne
  · rw [hv'];simp;omega
 have hb2:w2.heap[b]?=some (.cells #[selfP b,v] 206 (0,0)):=by
  rw [hgrow.block b hlt (fun e=>h1.ne e.symm)];exact h1.blk
 have d0:w2.cell? ⟨b,0,none⟩=some (.pointer (some ⟨b,0,none⟩)):=by rw [Lib.cell_of_heap hb2];rfl
 have d1:w2.cell? ⟨b,1,none⟩=some v:=by rw [Lib.cell_of_heap hb2];rfl
 have f1:w2.frozen? ⟨b,1,none⟩=false:=Lib.frozen_of_heap hb2 1
 obtain ⟨ao,n',cap,rfl⟩ : ∃ao n' cap,v'=.slice ao n' cap:=by
  rcases hown'.2 with ⟨hv,_⟩|⟨g,cap,cur,hv,_⟩
  · exact ⟨_,_,_,hv⟩
  · exact ⟨_,_,_,hv⟩
 go_wp2
 go_ret2
 refine ⟨rfl,_,BldW.put1 hb2 (by rw [strCells_append,ByteArray.size_append];exact hown') hne',?_,?_⟩
 · exact ((o1.wider (fun k hk=>.inl hk)).grown hgrow fun k hk=>.inl (.inr hk)).setCell (a:=⟨b,1,none⟩) (.inl rfl) _
 · rcases hv' with hv'|hv'
   · exact .inl hv'
   · exact .inr fun k hk=>by have:=o1.size;rw [hv'] at hk;simp at hk;omega
theorem cellsY:Try.prog.cellsOf 5=1:=by kernel_rfl
set_option maxHeartbeats 2000000 in
set_option maxRecDepth 100000 in
theorem stringSome_ok {b:Nat} {s:ByteArray} {p v:Value} (h:BldW 206 5 b s p v w) (h0:s.size≠0) :
 Calls Try.prog 143 #[selfP b] w fun e w'=>e=.returned (.string s)∧Only w w' (fun k=>v.ownBlock=some k):=by
 obtain ⟨l,rfl⟩ : ∃l:List UInt8,s=⟨l.toArray⟩:=⟨s.data.toList,by simp⟩
 have hll:(⟨l.toArray⟩:ByteArray).size=l.length:=by simp [ByteArray.size]
 rw [hll] at h0
 have hl0:l≠[]:=by rintro rfl;simp at h0
 have hbk:=h.blk
 have hown:=h.own
 rw [hll] at hown
 have hcl:Lib.strCells ⟨l.toArray⟩=Lib.byteCells l:=by simp [Lib.strCells,Lib.byteCells]
 rw [hcl] at hown
 obtain ⟨g,cap,cur,rfl,hbg,hg,hnc,hcm,hcs,htake⟩ : ∃g cap cur,v=.slice (some ⟨g,0,none⟩) l.length cap∧0≤g∧w.heap[g]?=some (.cells cur 5 (0,0))∧l.length≤cap∧cap≤maxLen∧cur.size=cap*1∧cur.toList.take (l.length*1)=Lib.byteCells l:=by
  rcases hown.2 with ⟨_,hz⟩|⟨g,cap,cur,hv,r⟩
  · exact absurd hz h0
  · exact ⟨g,cap,cur,hv,r⟩
 have c1:w.drew.cell? ⟨b,1,none⟩=some (.slice (some ⟨g,0,none⟩) l.length cap):=by
  have:w.drew.heap[b]?=some (.cells #[p,.slice (some ⟨g,0,none⟩) l.length cap] 206 (0,0)):=hbk
  rw [Lib.cell_of_heap this];rfl
 have hSD:(Builtin.unsafeSliceData_ #[199] 269 #[.slice (some ⟨g,0,none⟩) l.length cap]).run Try.prog w.drew=.ok (.pointer (some ⟨g,0,none⟩)) w.drew:=
  Lib.run_unsafeSliceData_row _ _ _ _ _ _ (by omega)
 have hUS:(Builtin.unsafeString_ #[269,3] 9 #[.pointer (some ⟨g,0,none⟩),.int .i64 l.length]).run Try.prog w.drew=.ok (.string ⟨l.toArray⟩) (w.drew.freeze ⟨g,0,none⟩ l.length):=by
  refine Lib.run_unsafeString_row w.drew 269 3 9 5 Try.underlying269 cellsY g cur.size (by have hg':w.drew.heap[g]?=some (.cells cur 5 (0,0)):=hg;simp [World.shape?,hg']) l hl0 (by omega) (by unfold maxLen at hcm;omega) ?_
  intro j x hx
  have:=hown.cells (g:=g) rfl j (.int .u8 x.toNat) (by simp [Lib.byteCells,hx])
  exact this
 have o0:Only w w.drew (fun k=>(Value.slice (some ⟨g,0,none⟩) l.length cap).ownBlock=some k):=⟨rfl,rfl,rfl,Nat.le_refl _,fun _ _ _=>rfl⟩
 go_enter Try.func143,Try.ntmps143
 go_wp2
 go_region
 all_goals (go_wp2;go_ret;exact ⟨rfl,o0.frozen (a:=⟨g,0,none⟩) rfl _⟩)
theorem unsafe_none (W:World) (q:Option Addr):(Builtin.unsafeString_ #[269,3] 9 #[.pointer q,.int .i64 0]).run Try.prog W=.ok (.string .empty) W:=
 Lib.run_unsafeString_none W _ _ _ q
set_option maxHeartbeats 2000000 in
set_option maxRecDepth 100000 in
theorem string_nil {S:Nat→Prop} {b:Nat} {p:Value} (hbk:w.heap[b]?=some (.cells #[p,.slice none 0 0] 206 (0,0))) :
 Calls Try.prog 143 #[selfP b] w fun e w'=>e=.returned (.string ⟨#[]⟩)∧Only w w' S:=by
 have hUS:=unsafe_none
 have c1:w.drew.cell? ⟨b,1,none⟩=some (.slice none 0 0):=by
  have:w.drew.heap[b]?=some (.cells #[p,.slice none 0 0] 206 (0,0)):=hbk
  rw [Lib.cell_of_heap this];rfl
 have hSD:(Builtin.unsafeSliceData_ #[199] 269 #[.slice none 0 0]).run Try.prog w.drew=.ok (.pointer none) w.drew:=rfl
 have o0:Only w w.drew S:=⟨rfl,rfl,rfl,Nat.le_refl _,fun _ _ _=>rfl⟩
 go_enter Try.func143,Try.ntmps143
 go_wp2
 go_region
 all_goals (go_wp2;go_ret;exact ⟨rfl,o0⟩)
set_option maxHeartbeats 2000000 in
set_option maxRecDepth 100000 in
theorem string_noroom {S:Nat→Prop} {b g:Nat} {p:Value} {cur:Array Value} (hbk:w.heap[b]?=some (.cells #[p,.slice (some ⟨g,0,none⟩) 0 0] 206 (0,0))) (hg:w.heap[g]?=some (.cells cur 5 (0,0))) :
 Calls Try.prog 143 #[selfP b] w fun e w'=>e=.returned (.string ⟨#[]⟩)∧Only w w' S:=by
 have hUS:=unsafe_none
 have hlt:b<w.heap.size:=(Array.getElem?_eq_some_iff.1 hbk).1
 have c1:w.drew.cell? ⟨b,1,none⟩=some (.slice (some ⟨g,0,none⟩) 0 0):=by
  have:w.drew.heap[b]?=some (.cells #[p,.slice (some ⟨g,0,none⟩) 0 0] 206 (0,0)):=hbk
  rw [Lib.cell_of_heap this];rfl
 have hSD:(Builtin.unsafeSliceData_ #[199] 269 #[.slice (some ⟨g,0,none⟩) 0 0]).run Try.prog w.drew=.ok (.pointer (some ⟨w.drew.heap.size,0,none⟩)) (w.drew.alloc (.view ⟨g,0,none⟩ 5)):=
  Lib.run_unsafeSliceData_zero w.drew _ _ 5 Try.underlying269 ⟨g,0,none⟩ 0 (5,cur.size) (by have hg':w.drew.heap[g]?=some (.cells cur 5 (0,0)):=hg;simp [World.shape?,hg'])
 have c2:(w.drew.alloc (.view ⟨g,0,none⟩ 5)).cell? ⟨b,1,none⟩=some (.slice (some ⟨g,0,none⟩) 0 0):=by
  have:(w.drew.alloc (.view ⟨g,0,none⟩ 5)).heap[b]?=_:=(Lib.alloc_old w.drew _ b hlt).trans hbk
  rw [Lib.cell_of_heap this];rfl
 have c3:(w.alloc (.view ⟨g,0,none⟩ 5)).drew.cell? ⟨b,1,none⟩=some (.slice (some ⟨g,0,none⟩) 0 0):=c2
 have c4:w.cell? ⟨b,1,none⟩=some (.slice (some ⟨g,0,none⟩) 0 0):=c1
 have o0:Only w w.drew S:=⟨rfl,rfl,rfl,Nat.le_refl _,fun _ _ _=>rfl⟩
 go_enter Try.func143,Try.ntmps143
 go_wp2
 go_region
 all_goals (go_wp2;go_ret;exact ⟨rfl,o0.alloc _⟩)
set_option maxHeartbeats 2000000 in
set_option maxRecDepth 100000 in
theorem string_room {S:Nat→Prop} {b g cap:Nat} {p:Value} (hc0:cap≠0) (hbk:w.heap[b]?=some (.cells #[p,.slice (some ⟨g,0,none⟩) 0 cap] 206 (0,0))) :
 Calls Try.prog 143 #[selfP b] w fun e w'=>e=.returned (.string ⟨#[]⟩)∧Only w w' S:=by
 have hUS:=unsafe_none
 have c1:w.drew.cell? ⟨b,1,none⟩=some (.slice (some ⟨g,0,none⟩) 0 cap):=by
  have:w.drew.heap[b]?=some (.cells #[p,.slice (some ⟨g,0,none⟩) 0 cap] 206 (0,0)):=hbk
  rw [Lib.cell_of_heap this];rfl
 have hSD:(Builtin.unsafeSliceData_ #[199] 269 #[.slice (some ⟨g,0,none⟩) 0 cap]).run Try.prog w.drew=.ok (.pointer (some ⟨g,0,none⟩)) w.drew:=
  Lib.run_unsafeSliceData_row _ _ _ _ _ _ hc0
 clear hc0
 have o0:Only w w.drew S:=⟨rfl,rfl,rfl,Nat.le_refl _,fun _ _ _=>rfl⟩
 go_enter Try.func143,Try.ntmps143
 go_wp2
 go_region
 all_goals (go_wp2;go_ret;exact ⟨rfl,o0⟩)
theorem string_ok:CtrST Try.prog 143 206 5:=by
 intro w b s p v h
 by_cases h0:s.size=0
 · have hs:s=⟨#[]⟩:=by
    cases s with
    | mk d=>congr 1;exact Array.eq_empty_of_size_eq_zero h0
   rcases h.own.2 with ⟨rfl,_⟩|⟨g,cap,cur,rfl,hbg,hg,_,_,_,_⟩
   · rw [hs];exact string_nil h.blk
   · have hbk:=h.blk
     rw [h0] at hbk ⊢
     rw [hs]
     by_cases hc0:cap=0
     · subst hc0
       exact string_noroom hbk hg
     · exact string_room hc0 hbk
 · exact stringSome_ok h h0
theorem repeat_ok:CtrRP Try.prog 142:=fun s c w hc hl=>Try.strings_Repeat s c w hc hl
end
end Go.Proofs.Ytnbpmjfemeeecaa
