/- Marks on rows of numbers; where a row is not too long. -/
import Derived.Test.YtgoaegbddpmiiaaTShortest
import Derived.Test.YtgoaegbddpmiiaaUx
namespace Go.Proofs.Ytgoaegbddpmiiaa
open Go.VK AVal
theorem s26_0 : ∀(xs:List Int) (pre:List AVal) (k:Int),pre.length+xs.length≤1048576→0≤k→k+xs.length≤1000000000000→Ll_markIntS_0 k (pre.length:Int) (pre++xs.map iv)=some (k+xs.length,pre++marks k xs.length)
 | [],pre,k,hl,h1,h2=>by
   refine ll_markIntS_0 _ _ _ ?_
   simp [marks]
 | x::xs,pre,k,hl,h1,h2=>by
   have hm:=mid_len pre (xs.map iv) (iv x)
   simp only [List.length_cons] at hl h2
   have e2:aggQ (iv x)=false:=rfl
   have e3:AVal.int .i64 k=iv k:=rfl
   have ih:=s26_0 xs (pre++[iv k]) (k+1) (by simp;omega) (by omega) (by omega)
   simp only [List.append_assoc,List.cons_append,List.nil_append,List.length_append,List.length_cons,List.length_nil,Nat.zero_add] at ih
   have ew:IntKind.wrap .i64 (k+1)=k+1:=wrap64 (by omega) (by omega)
   refine ll_markIntS_0 _ _ _ ?_
   simp only [List.map_cons,Int.toNat_natCast,dlt_true hm,d0_true,Bool.and_self,cond_true,mid_get,blt_true hm,e2,Bool.not_false,ew,wrap_succ hm (by simp;omega),mid_set,e3,ih,List.length_cons,marks,Option.some.injEq,Prod.mk.injEq,and_true]
   omega
theorem s26 (xs:List Int) (k:Int) (hl:xs.length≤1048576) (h1:0≤k) (h2:k≤1000000000):Fl_markIntS k (xs.map iv)=some (k+xs.length,marks k xs.length):=by
 refine ul_markIntS _ _ ?_
 have e:=s26_0 xs [] k (by simp;omega) h1 (by omega)
 simp only [List.nil_append,List.length_nil,Int.natCast_zero] at e
 simp [e]
theorem s28_0 : ∀(n:Nat) (pre:List AVal) (k:Int),pre.length+n≤1048576→0≤k→k+n≤1000000000000→Ll_heldIntS_0 (pre++marks k n) k (pre.length:Int)=some (.inr (k+n))
 | 0,pre,k,hl,h1,h2=>by
   refine ll_heldIntS_0 _ _ _ ?_
   simp [marks]
 | n+1,pre,k,hl,h1,h2=>by
   have hm:=mid_len pre (marks (k+1) n) (iv k)
   have ih:=s28_0 n (pre++[iv k]) (k+1) (by simp;omega) (by omega) (by omega)
   simp only [List.append_assoc,List.cons_append,List.nil_append,List.length_append,List.length_cons,List.length_nil,Nat.zero_add] at ih
   have ew:IntKind.wrap .i64 (k+1)=k+1:=wrap64 (by omega) (by omega)
   have e1:CT.shape (.int .i64) (iv k)=true:=rfl
   have e2:(iv k).toInt=k:=rfl
   rw [show marks k (n+1)=iv k::marks (k+1) n from rfl]
   refine ll_heldIntS_0 _ _ _ ?_
   simp only [Int.toNat_natCast,dlt_true hm,d0_true,Bool.and_self,cond_true,cond_false,mid_get,e1,e2,decide_true,Bool.not_true,ew,wrap_succ hm (by simp [marks_len];omega),ih,Option.some.injEq,Sum.inr.injEq]
   omega
theorem s28 (n:Nat) (k:Int) (hl:n≤1048576) (h1:0≤k) (h2:k≤1000000000):Fl_heldIntS (marks k n) k=some (k+n):=by
 refine ul_heldIntS _ _ ?_
 have e:=s28_0 n [] k (by simp;omega) h1 (by omega)
 simp only [List.nil_append,List.length_nil,Int.natCast_zero] at e
 simp [e]
end Go.Proofs.Ytgoaegbddpmiiaa
