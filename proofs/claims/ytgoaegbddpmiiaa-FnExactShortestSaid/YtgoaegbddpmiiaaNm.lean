/- Names: what is asked of them; no condition. -/
import Derived.Test.YtgoaegbddpmiiaaTShortest
import Derived.Test.YtgoaegbddpmiiaaUx
namespace Go.Proofs.Ytgoaegbddpmiiaa
open Go.VK AVal
def letB (c:Int):Bool:=(decide (97≤c)&&decide (c≤122))||(decide (65≤c)&&decide (c≤90))
def digB (c:Int):Bool:=decide (48≤c)&&decide (c≤57)
def nmB (c:Int):Bool:=letB c||(digB c||decide (c=95))
theorem s124 (c:Int):Fs_l01Letter c=some (letB c):=by
 refine us_l01Letter _ ?_
 unfold letB
 by_cases h1:97≤c <;> by_cases h2:c≤122 <;> by_cases h3:65≤c <;> simp [h1,h2,h3]
theorem s114 (c:Int):Fi_isLetter c=some (letB c):=by
 refine ui_isLetter _ ?_
 unfold letB
 by_cases h1:97≤c <;> by_cases h2:c≤122 <;> by_cases h3:65≤c <;> simp [h1,h2,h3]
theorem s131 (c:Int):Fs_l01Digit c=some (digB c):=by
 refine us_l01Digit _ ?_
 unfold digB
 by_cases h1:48≤c <;> simp [h1]
theorem s127 (c:Int):Fi_isDigit c=some (digB c):=by
 refine ui_isDigit _ ?_
 unfold digB
 by_cases h1:48≤c <;> simp [h1]
theorem s125 (c:Int):Fs_l01NameByte c=some (nmB c):=by
 refine us_l01NameByte _ ?_
 unfold nmB
 simp only [s124,s131,Option.bind_some]
 cases letB c <;> cases digB c <;> simp
theorem s115 (c:Int):Fi_inName c=some (nmB c):=by
 refine ui_inName _ ?_
 unfold nmB
 simp only [s114,s127,Option.bind_some]
 cases letB c <;> cases digB c <;> simp
def allB (p:Int→Bool) (s:ByteArray):Nat→Nat→Bool
 | _,0=>true
 | i,n+1=>p (byteAt s i)&&allB p s (i+1) n
theorem s108_0 (s:ByteArray) (hs:s.size≤1048576) : ∀n i:Nat,i+n=s.size→Ls_l01Name_0 s (i:Int)=some (if allB nmB s i n then .inr () else .inl false)
 | 0,i,h=>by
   refine ls_l01Name_0 _ _ ?_
   simp [allB,show ¬i<s.size by omega]
 | n+1,i,h=>by
   refine ls_l01Name_0 _ _ ?_
   have hi:i<s.size:=by omega
   simp only [dlt_true hi,d0_true,Bool.and_self,cond_true,Int.toNat_natCast,s125,Option.bind_some,wrap_succ hi (by omega),s108_0 s hs n (i+1) (by omega),allB]
   by_cases g:nmB (byteAt s i)=true <;> simp [g]
theorem s87_0 (s:ByteArray) (hs:s.size≤1048576) : ∀n i:Nat,i+n=s.size→Li_nameOK_0 s (i:Int)=some (if allB nmB s i n then .inr () else .inl false)
 | 0,i,h=>by
   refine li_nameOK_0 _ _ ?_
   simp [allB,show ¬i<s.size by omega]
 | n+1,i,h=>by
   refine li_nameOK_0 _ _ ?_
   have hi:i<s.size:=by omega
   simp only [dlt_true hi,d0_true,Bool.and_self,cond_true,Int.toNat_natCast,s115,Option.bind_some,wrap_succ hi (by omega),s87_0 s hs n (i+1) (by omega),allB]
   by_cases g:nmB (byteAt s i)=true <;> simp [g]
def nmOK (s:ByteArray):Bool:=decide (1≤s.size)&&(decide (s.size≤24)&&(letB (byteAt s 0)&&allB nmB s 1 (s.size-1)))
theorem s108 (s:ByteArray):Fs_l01Name s=some (nmOK s):=by
 refine us_l01Name _ ?_
 unfold nmOK
 by_cases h1:s.size<1
 · have:((s.size:Int)<1):=by omega
   have : ¬1≤s.size:=by omega
   simp [*]
 by_cases h2:24<s.size
 · have:(24<(s.size:Int)):=by omega
   have : ¬(s.size:Int)<1:=by omega
   have : ¬s.size≤24:=by omega
   simp [*]
 have g1 : ¬(s.size:Int)<1:=by omega
 have g2 : ¬(24<(s.size:Int)):=by omega
 have g3:(0<(s.size:Int)):=by omega
 have g4:1≤s.size:=by omega
 have g5:s.size≤24:=by omega
 have hl:=s108_0 s (by omega) (s.size-1) 1 (by omega)
 simp only [Int.natCast_one] at hl
 simp only [g1,g2,g3,g4,g5,decide_true,decide_false,cond_true,cond_false,s124,Option.bind_some,hl,Bool.true_and]
 cases letB (byteAt s 0)
 · rfl
 · cases allB nmB s 1 (s.size-1) <;> rfl
theorem s87 (s:ByteArray):Fi_nameOK s=some (nmOK s):=by
 refine ui_nameOK _ ?_
 unfold nmOK
 by_cases h1:s.size<1
 · have:((s.size:Int)<1):=by omega
   have : ¬1≤s.size:=by omega
   simp [*]
 by_cases h2:24<s.size
 · have:(24<(s.size:Int)):=by omega
   have : ¬(s.size:Int)<1:=by omega
   have : ¬s.size≤24:=by omega
   simp [*]
 have g1 : ¬(s.size:Int)<1:=by omega
 have g2 : ¬(24<(s.size:Int)):=by omega
 have g3:(0<(s.size:Int)):=by omega
 have g4:1≤s.size:=by omega
 have g5:s.size≤24:=by omega
 have hl:=s87_0 s (by omega) s.size 0 (by omega)
 simp only [Int.natCast_zero] at hl
 have e:allB nmB s 0 s.size=(nmB (byteAt s 0)&&allB nmB s 1 (s.size-1)):=by
  obtain ⟨m,hm⟩ : ∃m,s.size=m+1:=⟨s.size-1,by omega⟩
  rw [hm];rfl
 simp only [g1,g2,g3,g4,g5,decide_true,decide_false,cond_true,cond_false,s114,Option.bind_some,hl,e,Bool.true_and,nmB]
 cases letB (byteAt s 0)
 · rfl
 · simp only [Bool.true_or,Bool.true_and]
   cases allB nmB s 1 (s.size-1) <;> rfl
end Go.Proofs.Ytgoaegbddpmiiaa
