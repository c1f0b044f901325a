/- Loops that end early, rows and symbols; no condition. -/
import Derived.Test.YtgoaegbddpmiiaaFa
namespace Go.Proofs.Ytgoaegbddpmiiaa
open Go.VK AVal
theorem loop_ex {S T:Type} (L:Nat→S→Option T) (n:Nat) (Inv:Nat→S→Prop) (Q:T→Prop) (hend : ∀s,Inv n s → ∃t,L n s=some t∧Q t)
 (hstep : ∀i,i<n → ∀s,Inv i s→(∃t,L i s=some t∧Q t) ∨ ∃s',Inv (i+1) s' ∧ ∀y,L (i+1) s'=some y→L i s=some y) :
 ∀m i,i+m=n → ∀s,Inv i s → ∃t,L i s=some t∧Q t
 | 0,i,h,s,hs=>by
   obtain rfl:i=n:=by omega
   exact hend s hs
 | m+1,i,h,s,hs=>by
   rcases hstep i (by omega) s hs with h1|⟨s',h1,h2⟩
   · exact h1
   · obtain ⟨t,h3,h4⟩:=loop_ex L n Inv Q hend hstep m (i+1) (by omega) s' h1
     exact ⟨t,h2 t h3,h4⟩
theorem allN_all (q:Int→Bool) (l:List Int):allN (fun i=>q (l.getD i 0)) l.length=l.all q:=by
 rw [Bool.eq_iff_iff,allN_iff,List.all_eq_true]
 refine ⟨fun h s hs => ?_,fun h i hi=>h _ (getD_in hi)⟩
 obtain ⟨i,hi,rfl⟩:=List.mem_iff_getElem.1 hs
 have:=h i hi
 simpa [List.getD_eq_getElem?_getD,hi] using this
theorem take_map_iv (l:List Int) (k:Nat):((l.map iv).take k).drop 0=(l.take k).map iv:=by simp
theorem drop_map_iv (l:List Int) (k:Nat):((l.map iv).take (l.map iv).length).drop k=(l.drop k).map iv:=by rw [List.take_length,List.map_drop]
theorem mB_ro (n m:Nat) (M:Nat→Nat→Bool):asRoL (mB n m M)=tbl n fun i=>.ro false 1 (rB m (M i)):=by
 unfold mB
 rw [tbl_ro]
 exact tbl_congr fun i _=>by simp only [asRo,rB_ro]
section
variable {nt:Nat} {T Ns:List AVal} {own:Int}
theorem non_s (hT:T.length=nt) (ht:nt≤60) (P:List AVal) {s:Int} (h0:0≤s) (h1:s≤1000000):Fs_l04Non T Ns own P s=some (s-nt):=by
 refine us_l04Non _ _ _ _ _ ?_
 rw [hT,wrap64 (by omega) (by omega)]
end
end Go.Proofs.Ytgoaegbddpmiiaa
