/- Rounds of loops over a range, in plain terms; no condition. -/
import Derived.Test.YtgoaegbddpmiiaaUx
namespace Go.Proofs.Ytgoaegbddpmiiaa
open Go.VK AVal
def allN (p:Nat→Bool) (n:Nat):Bool:=(List.range n).all p
theorem allN_iff {p:Nat→Bool} {n:Nat}:allN p n=true ↔ ∀i,i<n→p i=true:=by
 simp [allN,List.all_eq_true,List.mem_range]
theorem allN_no {p:Nat→Bool} {n i:Nat} (h:i<n) (hp:p i=false):allN p n=false:=by
 cases g:allN p n with
 | false=>rfl
 | true=>rw [allN_iff.1 g i h] at hp;cases hp
theorem allN_congr {p q:Nat→Bool} {n:Nat} (h : ∀i,i<n→p i=q i):allN p n=allN q n:=by
 rw [Bool.eq_iff_iff,allN_iff,allN_iff]
 exact ⟨fun g i hi=>by rw [←h i hi];exact g i hi,fun g i hi=>by rw [h i hi];exact g i hi⟩
def firstF {E:Type} (f:Nat→Option E):Nat→Nat→Option E
 | _,0=>none
 | i,m+1=>match f i with|some e=>some e|none=>firstF f (i+1) m
theorem loop_first {E S:Type} (L:Nat→Option (E ⊕ S)) (n:Nat) (f:Nat→Option E) (s:S) (hend:L n=some (.inr s))
 (hstep : ∀i,i<n → ∀y,(match f i with|some e=>some (.inl e)|none=>L (i+1))=some y→L i=some y) :
 ∀m i,i+m=n→L i=some (match firstF f i m with|some e=>.inl e|none=>.inr s)
 | 0,i,h=>by
   obtain rfl:i=n:=by omega
   simp [firstF,hend]
 | m+1,i,h=>by
   refine hstep i (by omega) _ ?_
   have ih:=loop_first L n f s hend hstep m (i+1) (by omega)
   simp only [firstF]
   cases f i with
   | some e=>rfl
   | none=>exact ih
theorem firstF_all (p:Nat→Bool) : ∀m i,firstF (fun j=>bif p j then none else some false) i m=bif (List.range' i m).all p then none else some false
 | 0,i=>rfl
 | m+1,i=>by
   simp only [firstF,List.range'_succ,List.all_cons]
   cases p i with
   | false=>rfl
   | true=>simp [firstF_all p m (i+1)]
theorem loop_all {S:Type} (L:Nat→Option (Bool ⊕ S)) (n:Nat) (p:Nat→Bool) (s:S) (hend:L n=some (.inr s))
 (hstep : ∀i,i<n → ∀y,(bif p i then L (i+1) else some (.inl false))=some y→L i=some y) :
 L 0=some (bif allN p n then .inr s else .inl false):=by
 have h:=loop_first L n (fun j=>bif p j then none else some false) s hend (fun i hi y hy=>hstep i hi y (by
  cases hp:p i with
  | true=>simpa [hp] using hy
  | false=>simpa [hp] using hy)) n 0 (by omega)
 rw [h,firstF_all]
 unfold allN
 rw [List.range_eq_range']
 cases (List.range' 0 n).all p <;> rfl
def mapR {E S T:Type} (g:S→T):E ⊕ S→E ⊕ T|.inl e=>.inl e|.inr s=>.inr (g s)
def foldF {E S:Type} (f:Nat→S→E ⊕ S):Nat→Nat→S→E ⊕ S
 | _,0,s=>.inr s
 | i,m+1,s=>match f i s with|.inl e=>.inl e|.inr s'=>foldF f (i+1) m s'
theorem loop_fold {E S T:Type} (L:Nat→S→Option (E ⊕ T)) (n:Nat) (f:Nat→S→E ⊕ S) (g:S→T) (Inv:Nat→S→Prop) (hend : ∀s,Inv n s→L n s=some (.inr (g s)))
 (hstep : ∀i,i<n → ∀s,Inv i s → ∀y,(match f i s with|.inl e=>some (.inl e)|.inr s'=>L (i+1) s')=some y→L i s=some y)
 (hinv : ∀i,i<n → ∀s,Inv i s → ∀s',f i s=.inr s'→Inv (i+1) s') :
 ∀m i,i+m=n → ∀s,Inv i s→L i s=some (mapR g (foldF f i m s))
 | 0,i,h,s,hs=>by
   obtain rfl:i=n:=by omega
   simp [foldF,hend s hs,mapR]
 | m+1,i,h,s,hs=>by
   refine hstep i (by omega) s hs _ ?_
   simp only [foldF]
   cases hf:f i s with
   | inl e=>rfl
   | inr s'=>exact loop_fold L n f g Inv hend hstep hinv m (i+1) (by omega) s' (hinv i (by omega) s hs s' hf)
theorem loop_run {S T:Type} (L:Nat→S→Option T) (n:Nat) (f:Nat→S→S) (g:S→T) (Inv:Nat→S→Prop) (hend : ∀s,Inv n s→L n s=some (g s))
 (hstep : ∀i,i<n → ∀s,Inv i s → ∀y,L (i+1) (f i s)=some y→L i s=some y)
 (hinv : ∀i,i<n → ∀s,Inv i s→Inv (i+1) (f i s)) :
 ∀m i,i+m=n → ∀s,Inv i s→L i s=some (g ((List.range' i m).foldl (fun s i=>f i s) s))
 | 0,i,h,s,hs=>by
   obtain rfl:i=n:=by omega
   simp [hend s hs]
 | m+1,i,h,s,hs=>by
   refine hstep i (by omega) s hs _ ?_
   rw [List.range'_succ,List.foldl_cons]
   exact loop_run L n f g Inv hend hstep hinv m (i+1) (by omega) _ (hinv i (by omega) s hs)
theorem wrap_i {i:Nat} (h:i<9000000000000000000):IntKind.wrap .i64 ((i:Int)+1)=((i+1:Nat):Int):=wrap_succ (n:=i+1) (Nat.lt_succ_self i) h
theorem in_true {i n:Nat} (h:i<n):(decide ((0:Int)≤(i:Int))&&decide ((i:Int)<((n:Nat):Int)))=true:=inB_true h
theorem lt_true {i n:Nat} (h:i<n):decide ((i:Int)<((n:Nat):Int))=true:=dlt_true h
theorem lt_self (n:Nat):decide (((n:Nat):Int)<((n:Nat):Int))=false:=by simp
end Go.Proofs.Ytgoaegbddpmiiaa
