/- The marks' texts; no condition. -/
import Derived.Test.YtgoaegbddpmiiaaTShortest
import Derived.Test.YtgoaegbddpmiiaaUx
namespace Go.Proofs.Ytgoaegbddpmiiaa
open Go.VK AVal
theorem l122_ex : ∀(n:Nat) (k:Nat) (b:ByteArray),k≤n→b.size+k≤1000000000000 → ∃r:ByteArray,Ll_markText_0 (k:Int) b=some r∧r.size≤b.size+k
 | 0,k,b,hk,hb=>by
   refine ⟨b,ll_markText_0 _ _ ?_,by omega⟩
   obtain rfl:k=0:=by omega
   simp
 | n+1,k,b,hk,hb=>by
   by_cases g:k=0
   · refine ⟨b,ll_markText_0 _ _ ?_,by omega⟩
     simp [g]
   · have g0:(0:Int)<(k:Int):=by omega
     have hd:Int.tdiv (k:Int) 10=((k / 10:Nat):Int):=by rw [Int.tdiv_eq_ediv_of_nonneg (by omega)];omega
     have ew:IntKind.wrap .i64 (Int.tdiv (k:Int) 10)=((k / 10:Nat):Int):=by rw [hd,wrap64 (by omega) (by omega)]
     have e1 : ∀x:Int,allInt .u8 [.int .u8 x]=true:=fun x=>rfl
     have e2 : ∀x:Int,(bytesOfL [.int .u8 x]).size=1:=fun x=>rfl
     obtain ⟨r,h1,h2⟩:=l122_ex n (k / 10) (bytesOfL [.int .u8 (IntKind.wrap .u8 (IntKind.wrap .i64 (48+Int.tmod (k:Int) 10)))]++b) (by omega) (by rw [ByteArray.size_append,e2];omega)
     rw [ByteArray.size_append,e2] at h2
     refine ⟨r,ll_markText_0 _ _ ?_,by omega⟩
     have e3:fits64 (1+b.size)=true:=fits64_of (by omega)
     simp only [g0,decide_true,cond_true,e1,e2,e3,ew,h1]
theorem s122_ex (k:Int) (h:k≤100000000000) : ∃r,Fl_markText k=some r:=by
 by_cases g:k≤0
 · exact ⟨_,ul_markText _ (by simp only [g,decide_true,cond_true];rfl)⟩
 · obtain ⟨n,rfl⟩ : ∃n:Nat,k=n:=⟨k.toNat,by omega⟩
   obtain ⟨r,h1,h2⟩:=l122_ex n n (ByteArray.mk #[]) (Nat.le_refl _) (by rw [show (ByteArray.mk #[]).size=0 from rfl];omega)
   have h3:r.size≤n:=by rw [show (ByteArray.mk #[]).size=0 from rfl] at h2;omega
   have e3:fits64 ((ByteArray.mk #[109]).size+r.size)=true:=fits64_of (by rw [show (ByteArray.mk #[109]).size=1 from rfl];omega)
   exact ⟨_,ul_markText _ (by simp only [g,decide_false,cond_false,h1,Option.bind_some,e3,cond_true];rfl)⟩
noncomputable def mt (k:Int):ByteArray:=(Fl_markText k).getD ByteArray.empty
theorem s122 (k:Int) (h:k≤100000000000):Fl_markText k=some (mt k):=by
 obtain ⟨r,h⟩:=s122_ex k h
 simp [mt,h]
end Go.Proofs.Ytgoaegbddpmiiaa
