/- A layout's text: both sides answer with the same text. -/
import Derived.Test.YtnbpmjfemeeecaaLx
namespace Go.Proofs.Ytnbpmjfemeeecaa
open Go.VK AVal
theorem allF_at {p:Nat→Bool} : ∀(n i:Nat),allF p i n=true → ∀j,i≤j→j<i+n→p j=true
 | 0,i,_,j,h1,h2=>by omega
 | n+1,i,h,j,h1,h2=>by
   simp only [allF,Bool.and_eq_true] at h
   by_cases hj:j=i
   · rw [hj];exact h.1
   · exact allF_at n (i+1) h.2 j (by omega) (by omega)
theorem right_of {d:List LNodeD} {B:List Bool} (hq:layQ d=true) (hB:B.length=grpN d) (ht:totLNode d≤1048576):RightL d B (mass (kdA d)) ∧ ∀i,i<d.length→mass (kdA d) i≤i+1:=by
 simp only [layQ,Bool.and_eq_true,inQ,decide_eq_true_eq] at hq
 obtain ⟨⟨n1,n3⟩,_,hi,_⟩:=hq
 obtain ⟨hs,hu⟩:=(two_ways (kdA d) (nqA d) d.length 0 (by simp [ups])).1 hi
 rw [Nat.zero_add] at hu
 have hsp : ∀i,i<d.length→specQ (kdA d) (nqA d) i=true:=fun i h=>allF_at d.length 0 hs i (Nat.zero_le i) (by omega)
 have hdn:DownQ (kdA d) d.length:=fun i h x hx=>by
  have:=hsp i h
  simp only [specQ,Bool.and_eq_true,rngQ,List.all_eq_true,decide_eq_true_eq] at this
  have:=this.2 x hx
  omega
 refine ⟨⟨by omega,by omega,hB,hdn,fun i h => ?_,fun i h=>mass_eq hdn h,ht⟩,fun i h=>mass_le hdn hu h⟩
 have:=hsp i h
 simp only [specQ,Bool.and_eq_true] at this
 exact this.1
theorem text2 {d:List LNodeD} {B:List Bool} (hq:layQ d=true) (hB:B.length=grpN d) (ht:totLNode d≤1048576) : ∃t,Fs_l14Text (d.map avLNode) (B.map bv)=some t∧Fi_setText (d.map avLNode) (B.map bv)=some t:=by
 obtain ⟨h,hm⟩:=right_of hq hB ht
 have n1:=h.n1
 have n3:=h.n300
 have hml:=hm (d.length-1) (by omega)
 have hz:ByteArray.empty.size=0:=rfl
 obtain ⟨o',r1,r2,r3⟩:=nodeJ h d.length (d.length-1) (by omega) (by omega) 0 false ByteArray.empty (by omega) (by rw [hz];omega)
 have w1:IntKind.wrap .i64 ((d.length:Int)-1)=((d.length-1:Nat):Int):=by rw [wrap64 (by omega) (by omega)];omega
 have e0:ofBytes ByteArray.empty=[]:=rfl
 rw [e0] at r2
 simp only [Int.natCast_zero] at r2 r3
 refine ⟨o',us_l14Text _ _ ?_,ui_setText _ _ ?_⟩
 · simp only [List.length_map,w1,r2,Option.bind_some,ofBytes_int,cond_true,ofBytes_back]
 · simp only [List.length_map,setter d n3,Option.bind_some,w1,r3,ustrings_Builder_String _ (bldQ_mk _ _ _),bldS_mk]
end Go.Proofs.Ytnbpmjfemeeecaa
