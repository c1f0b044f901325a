/- Layouts: a node by its kind, on both sides; the law. -/
import Derived.Test.YtnbpmjfemeeecaaLy
namespace Go.Proofs.Ytnbpmjfemeeecaa
open Go.VK AVal
theorem z_sz:((ByteArray.mk #[]).size:Int)=0:=rfl
theorem z_nl:nlQ (ByteArray.mk #[])=false:=rfl
theorem ls0 (d:List LNodeD) (hd:d.length≤300) (ht:totLNode d≤1048576) : ∀n i:Nat,i+n=d.length →
 Ls_LayoutOK_0 (d.map avLNode) (i:Int) (cntA d.length (ups (kdA d) i))=some (bif allF (specQ (kdA d) (nqA d)) i n then .inr (d.map avLNode,cntA d.length (ups (kdA d) d.length)) else .inl false)
 | 0,i,h=>by
   obtain rfl:i=d.length:=by omega
   refine ls_LayoutOK_0 _ _ _ ?_
   simp [allF]
 | n+1,i,h=>by
   have hi:i<d.length:=by omega
   have ih:=ls0 d hd ht n (i+1) (by omega)
   have hu:=ups_len d (i:=i+1) (by omega)
   simp only [ups] at ih hu
   have hi':IntKind.wrap .i64 ((i:Int)+1)=((i+1:Nat):Int):=wrap_i (by omega)
   have hq:specQ (kdA d) (nqA d) i=(nqA d i&&rngQ ((i:Int)-1) (kdA d i)):=rfl
   have hz:=get_tot hi
   refine ls_LayoutOK_0 _ _ _ ?_
   simp only [allF,hq,List.length_map,lt_true hi,d0_true,Bool.and_self,cond_true,Int.toNat_natCast,getD_map' avLNode nD hi,sh_LNode,c0_LNode,c1_LNode,c2_LNode,c3_LNode]
   simp only [kdA,nqA] at ih hu ⊢
   generalize d.getD i nD=x at ih hu hz ⊢
   obtain ⟨k,s,m,ks⟩:=x
   simp only [szLNode] at ih hu hz ⊢
   generalize ups (kdA d) i=base at ih hu ⊢
   rw [List.length_append] at hu
   have sk0:=sk d i hi hd k s m ks base (by rw [List.length_append];omega) ks.length 0 (by omega)
   simp only [Int.natCast_zero,List.take_zero,List.append_nil,List.drop_zero] at sk0
   simp only [s61',in_spec s (by omega),Option.bind_some]
   have i0:inQ 0 20 0=true:=rfl
   by_cases k1:k=1
   · subst k1
     by_cases hl:ks.length=0
     · have hl2:(ks.length:Int)=0:=by omega
       rw [hl2] at sk0
       by_cases hm:m=0
       · subst hm
         by_cases hs:200<(s.size:Int)
         · have hs2 : ¬(s.size:Int)≤200:=by omega
           simp only [decide_true,decide_false,Bool.not_true,Bool.not_false,cond_true,cond_false,Bool.false_and,Bool.and_true,Bool.or_false,Int.reduceEq,nodQ,hl,Int.natCast_zero,hs,hs2]
         · have hs2:(s.size:Int)≤200:=by omega
           cases hn:nlQ s with
           | true=>simp only [decide_true,decide_false,Bool.not_true,Bool.not_false,cond_true,cond_false,Bool.false_and,Bool.and_true,Bool.and_false,Bool.or_false,Int.reduceEq,nodQ,hl,Int.natCast_zero,hs,hs2,hn]
           | false=>
             simp only [decide_true,decide_false,Bool.not_true,Bool.not_false,cond_true,cond_false,Bool.true_and,Bool.and_true,Bool.or_false,Option.bind_some,Int.reduceEq,nodQ,hl,Int.natCast_zero,hs,hs2,hn,i0,sk0]
             cases rngQ ((i:Int)-1) ks with
             | false=>rfl
             | true=>simp only [cond_true,Bool.true_and,Sum.elim_inr,hi',ih]
       · simp only [decide_true,decide_false,Bool.not_true,Bool.not_false,cond_true,cond_false,Bool.false_and,Bool.and_true,Bool.and_false,Bool.or_false,Int.reduceEq,nodQ,hl,Int.natCast_zero,hm]
     · have hl2 : ¬(ks.length:Int)=0:=by omega
       simp only [decide_true,decide_false,Bool.not_true,Bool.not_false,cond_true,cond_false,Bool.false_and,Bool.and_false,Bool.or_false,Int.reduceEq,nodQ,hl,hl2]
   by_cases k2:k=2
   · subst k2
     by_cases hl:ks.length=0
     · have hl2:(ks.length:Int)=0:=by omega
       rw [hl2] at sk0
       by_cases hs:s=ByteArray.mk #[]
       · subst hs
         by_cases hm:m=0
         · subst hm
           simp only [decide_true,decide_false,Bool.not_true,Bool.not_false,cond_true,cond_false,Bool.true_and,Bool.and_true,Bool.or_false,Option.bind_some,Int.reduceEq,nodQ,hl,Int.natCast_zero,z_sz,z_nl,show ¬(200:Int)<0 by omega,i0,sk0]
           cases rngQ ((i:Int)-1) ks with
           | false=>rfl
           | true=>simp only [cond_true,Bool.true_and,Sum.elim_inr,hi',ih]
         · simp only [decide_true,decide_false,Bool.not_true,Bool.not_false,cond_true,cond_false,Bool.true_and,Bool.false_and,Bool.and_true,Bool.and_false,Bool.or_false,Int.reduceEq,nodQ,hl,Int.natCast_zero,hm]
       · simp only [decide_true,decide_false,Bool.not_true,Bool.not_false,cond_true,cond_false,Bool.false_and,Bool.and_true,Bool.or_false,Int.reduceEq,nodQ,hl,Int.natCast_zero,hs]
     · have hl2 : ¬(ks.length:Int)=0:=by omega
       simp only [decide_true,decide_false,Bool.not_true,Bool.not_false,cond_true,cond_false,Bool.false_and,Bool.and_false,Bool.or_false,Int.reduceEq,nodQ,hl,hl2]
   by_cases k3:k=3
   · subst k3
     by_cases hl:ks.length=0
     · have hl2:(ks.length:Int)=0:=by omega
       rw [hl2] at sk0
       by_cases hs:s=ByteArray.mk #[]
       · subst hs
         by_cases hm:m=0
         · subst hm
           simp only [decide_true,decide_false,Bool.not_true,Bool.not_false,cond_true,cond_false,Bool.true_and,Bool.and_true,Bool.or_true,Bool.or_false,Option.bind_some,Int.reduceEq,nodQ,hl,Int.natCast_zero,z_sz,z_nl,show ¬(200:Int)<0 by omega,i0,sk0]
           cases rngQ ((i:Int)-1) ks with
           | false=>rfl
           | true=>simp only [cond_true,Bool.true_and,Sum.elim_inr,hi',ih]
         · simp only [decide_true,decide_false,Bool.not_true,Bool.not_false,cond_true,cond_false,Bool.true_and,Bool.false_and,Bool.and_true,Bool.and_false,Bool.or_true,Bool.or_false,Int.reduceEq,nodQ,hl,Int.natCast_zero,hm]
       · simp only [decide_true,decide_false,Bool.not_true,Bool.not_false,cond_true,cond_false,Bool.false_and,Bool.and_true,Bool.or_true,Bool.or_false,Int.reduceEq,nodQ,hl,Int.natCast_zero,hs]
     · have hl2 : ¬(ks.length:Int)=0:=by omega
       simp only [decide_true,decide_false,Bool.not_true,Bool.not_false,cond_true,cond_false,Bool.false_and,Bool.and_false,Bool.or_true,Bool.or_false,Int.reduceEq,nodQ,hl,hl2]
   by_cases k4:k=4
   · subst k4
     by_cases hl:ks.length=0
     · have hl2:(ks.length:Int)=0:=by omega
       rw [hl2] at sk0
       by_cases hs:s=ByteArray.mk #[]
       · subst hs
         by_cases hm:m=0
         · subst hm
           simp only [decide_true,decide_false,Bool.not_true,Bool.not_false,cond_true,cond_false,Bool.true_and,Bool.and_true,Bool.or_true,Option.bind_some,Int.reduceEq,nodQ,hl,Int.natCast_zero,z_sz,z_nl,show ¬(200:Int)<0 by omega,i0,sk0]
           cases rngQ ((i:Int)-1) ks with
           | false=>rfl
           | true=>simp only [cond_true,Bool.true_and,Sum.elim_inr,hi',ih]
         · simp only [decide_true,decide_false,Bool.not_true,Bool.not_false,cond_true,cond_false,Bool.true_and,Bool.false_and,Bool.and_true,Bool.and_false,Bool.or_true,Int.reduceEq,nodQ,hl,Int.natCast_zero,hm]
       · simp only [decide_true,decide_false,Bool.not_true,Bool.not_false,cond_true,cond_false,Bool.false_and,Bool.and_true,Bool.or_true,Int.reduceEq,nodQ,hl,Int.natCast_zero,hs]
     · have hl2 : ¬(ks.length:Int)=0:=by omega
       simp only [decide_true,decide_false,Bool.not_true,Bool.not_false,cond_true,cond_false,Bool.false_and,Bool.and_false,Bool.or_true,Int.reduceEq,nodQ,hl,hl2]
   by_cases k5:k=5
   · subst k5
     by_cases hl:ks.length=1
     · have hl2:(ks.length:Int)=1:=by omega
       rw [hl2] at sk0
       by_cases hs:s=ByteArray.mk #[]
       · subst hs
         cases hm:inQ 0 20 m with
         | false=>simp only [decide_true,decide_false,Bool.not_true,Bool.not_false,cond_true,cond_false,Bool.true_and,Bool.false_and,Bool.and_false,Bool.or_false,Int.reduceEq,nodQ,hl,Int.natCast_one,z_sz,z_nl,show ¬(200:Int)<0 by omega,hm]
         | true=>
           simp only [decide_true,decide_false,Bool.not_true,Bool.not_false,cond_true,cond_false,Bool.true_and,Bool.and_true,Bool.or_false,Option.bind_some,Int.reduceEq,nodQ,hl,Int.natCast_one,z_sz,z_nl,show ¬(200:Int)<0 by omega,hm,sk0]
           cases rngQ ((i:Int)-1) ks with
           | false=>rfl
           | true=>simp only [cond_true,Bool.true_and,Sum.elim_inr,hi',ih]
       · simp only [decide_true,decide_false,Bool.not_true,Bool.not_false,cond_true,cond_false,Bool.true_and,Bool.false_and,Bool.or_false,Int.reduceEq,nodQ,hl,Int.natCast_one,hs]
     · have hl2 : ¬(ks.length:Int)=1:=by omega
       simp only [decide_true,decide_false,Bool.not_true,Bool.not_false,cond_true,cond_false,Bool.false_and,Bool.and_false,Bool.or_false,Int.reduceEq,nodQ,hl,hl2]
   by_cases k6:k=6
   · subst k6
     by_cases hl:ks.length=1
     · have hl2:(ks.length:Int)=1:=by omega
       rw [hl2] at sk0
       by_cases hs:s=ByteArray.mk #[]
       · subst hs
         by_cases hm:m=0
         · subst hm
           simp only [decide_true,decide_false,Bool.not_true,Bool.not_false,cond_true,cond_false,Bool.true_and,Bool.and_true,Bool.or_false,Option.bind_some,Int.reduceEq,nodQ,hl,Int.natCast_one,z_sz,z_nl,show ¬(200:Int)<0 by omega,i0,sk0]
           cases rngQ ((i:Int)-1) ks with
           | false=>rfl
           | true=>simp only [cond_true,Bool.true_and,Sum.elim_inr,hi',ih]
         · simp only [decide_true,decide_false,Bool.not_true,Bool.not_false,cond_true,cond_false,Bool.true_and,Bool.false_and,Bool.and_false,Bool.or_false,Int.reduceEq,nodQ,hl,Int.natCast_one,hm]
       · simp only [decide_true,decide_false,Bool.not_true,Bool.not_false,cond_true,cond_false,Bool.true_and,Bool.false_and,Bool.or_false,Int.reduceEq,nodQ,hl,Int.natCast_one,hs]
     · have hl2 : ¬(ks.length:Int)=1:=by omega
       simp only [decide_true,decide_false,Bool.not_true,Bool.not_false,cond_true,cond_false,Bool.false_and,Bool.and_false,Bool.or_false,Int.reduceEq,nodQ,hl,hl2]
   by_cases k7:k=7
   · subst k7
     by_cases hs:s=ByteArray.mk #[]
     · subst hs
       by_cases hm:m=0
       · subst hm
         simp only [decide_true,decide_false,Bool.not_true,Bool.not_false,cond_true,cond_false,Bool.true_and,Bool.and_true,Bool.or_false,Option.bind_some,Int.reduceEq,nodQ,z_sz,z_nl,show ¬(200:Int)<0 by omega,i0,sk0]
         cases rngQ ((i:Int)-1) ks with
         | false=>rfl
         | true=>simp only [cond_true,Bool.true_and,Sum.elim_inr,hi',ih]
       · simp only [decide_true,decide_false,Bool.not_true,Bool.not_false,cond_true,cond_false,Bool.true_and,Bool.false_and,Bool.and_false,Bool.or_false,Int.reduceEq,nodQ,hm]
     · simp only [decide_true,decide_false,Bool.not_true,Bool.not_false,cond_true,cond_false,Bool.false_and,Bool.or_false,Int.reduceEq,nodQ,hs]
   simp only [decide_true,decide_false,Bool.not_true,Bool.not_false,cond_true,cond_false,Bool.false_and,Bool.or_false,nodQ,k1,k2,k3,k4,k5,k6,k7]
end Go.Proofs.Ytnbpmjfemeeecaa
