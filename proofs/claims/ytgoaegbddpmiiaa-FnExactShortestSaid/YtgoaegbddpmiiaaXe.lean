/- Comparison of rows of numbers; where a row is not too long. -/
import Derived.Test.YtgoaegbddpmiiaaTShortest
import Derived.Test.YtgoaegbddpmiiaaUx
namespace Go.Proofs.Ytgoaegbddpmiiaa
open Go.VK AVal
theorem s24_0 (xs:List Int) (hl:xs.length≤1048576) : ∀n i:Nat,i+n=xs.length→Ll_eqIntS_0 (xs.map iv) (xs.map iv) (i:Int)=some (.inr ())
 | 0,i,h=>by
   refine ll_eqIntS_0 _ _ _ ?_
   simp [show ¬i<xs.length by omega]
 | n+1,i,h=>by
   have hi:i<xs.length:=by omega
   refine ll_eqIntS_0 _ _ _ ?_
   have e1:CT.shape (.int .i64) (iv xs[i])=true:=rfl
   simp only [List.length_map,Int.toNat_natCast,dlt_true hi,d0_true,Bool.and_self,cond_true,cond_false,getD_map iv hi,e1,decide_true,Bool.not_true,wrap_succ hi (by omega),s24_0 xs hl n (i+1) (by omega)]
theorem s24 (xs:List Int) (hl:xs.length≤1048576):Fl_eqIntS (xs.map iv) (xs.map iv)=some true:=by
 refine ul_eqIntS _ _ ?_
 have e:=s24_0 xs hl xs.length 0 (by omega)
 simp only [Int.natCast_zero] at e
 simp [e]
theorem ints_of : ∀{xs:List AVal},(∀y∈xs,Fits ctx ty_int y) → ∃ns:List Int,xs=ns.map iv
 | [],_=>⟨[],rfl⟩
 | y::ys,h=>by
   obtain ⟨n,rfl,_⟩:=(h y (by simp)).int' (k:=.i64) (by kernel_rfl)
   obtain ⟨ns,rfl⟩:=ints_of (xs:=ys) fun z hz=>h z (by simp [hz])
   exact ⟨n::ns,rfl⟩
end Go.Proofs.Ytgoaegbddpmiiaa
