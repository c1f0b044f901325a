/- Layouts: a node by its kind in the program; the law. -/
import Derived.Test.YtnbpmjfemeeecaaLy2
namespace Go.Proofs.Ytnbpmjfemeeecaa
open Go.VK AVal
theorem ln_impl (d:List LNodeD) (i:Nat) (hi:i<d.length) (hd:d.length≤300) (ht:totLNode d≤1048576) (base:List Int) :
 ∃m,Fi_layoutNode (d.map avLNode) (i:Int) (dI (ones base))=some (bif nqA d i&&seqQ ((i:Int)-1) base (kdA d i) then (true,dI (ones (base++kdA d i))) else (false,m)):=by
 have hz:=get_tot hi
 unfold nqA kdA
 generalize hx:d.getD i nD=x at hz ⊢
 have hx':(d.map avLNode).getD i .und=avLNode x:=by rw [getD_map' avLNode nD hi,hx]
 obtain ⟨k,s,m,ks⟩:=x
 simp only [szLNode] at hz
 obtain ⟨mm,il⟩:=ik i (by omega) ks (by omega) ks.length 0 base (by omega)
 simp only [Int.natCast_zero,List.drop_zero] at il
 refine ⟨bif nodQ (k,s,m,ks) then mm else dI (ones base),ui_layoutNode _ _ _ ?_⟩
 simp only [List.length_map,lt_true hi,d0_true,Bool.and_self,cond_true,Int.toNat_natCast,hx',sh_LNode,c0_LNode,c1_LNode,c2_LNode,c3_LNode,bnd_eq,in_impl,Option.bind_some]
 have g5:(mpGet (kcode (.int .i64 5)) (mpIns (.int .i64 6) (.int .i64 1) (mpIns (.int .i64 5) (.int .i64 1) ([]:List AVal)))).getD (.int .i64 0)=iv 1:=rfl
 have g6:(mpGet (kcode (.int .i64 6)) (mpIns (.int .i64 6) (.int .i64 1) (mpIns (.int .i64 5) (.int .i64 1) ([]:List AVal)))).getD (.int .i64 0)=iv 1:=rfl
 by_cases k1:k=1
 · subst k1
   by_cases hl:ks.length=0
   · have hl2:(ks.length:Int)=0:=by omega
     have sk0:=il;rw [hl2] at sk0
     by_cases hm:m=0
     · subst hm
       by_cases hs:200<(s.size:Int)
       · have hs2 : ¬(s.size:Int)≤200:=by omega
         simp only [decide_true,decide_false,Bool.not_true,cond_true,cond_false,Bool.false_and,Bool.and_true,Bool.or_false,Int.reduceEq,nodQ,hl,Int.natCast_zero,hs,hs2]
       · have hs2:(s.size:Int)≤200:=by omega
         cases hn:nlQ s with
         | true=>simp only [decide_true,decide_false,Bool.not_true,cond_true,cond_false,Bool.false_and,Bool.and_true,Bool.and_false,Bool.or_false,Int.reduceEq,nodQ,hl,Int.natCast_zero,hs,hs2,hn]
         | false=>
           simp only [decide_true,decide_false,Bool.not_true,Bool.not_false,cond_true,cond_false,Bool.true_and,Bool.and_true,Bool.or_false,Option.bind_some,Int.reduceEq,nodQ,hl,Int.natCast_zero,hs,hs2,hn,sk0]
           cases seqQ ((i:Int)-1) base ks <;> rfl
     · simp only [decide_true,decide_false,Bool.not_true,Bool.not_false,cond_true,cond_false,Bool.false_and,Bool.and_true,Bool.and_false,Bool.or_false,Int.reduceEq,nodQ,hl,Int.natCast_zero,hm]
       cases decide (200<(s.size:Int)) <;> cases nlQ s <;> rfl
   · have hl2 : ¬(ks.length:Int)=0:=by omega
     simp only [decide_true,decide_false,Bool.not_false,cond_true,cond_false,Bool.false_and,Bool.and_false,Bool.or_false,Int.reduceEq,nodQ,hl,hl2]
     cases decide (200<(s.size:Int)) <;> cases nlQ s <;> cases decide (m=0) <;> rfl
 by_cases k2:k=2
 · subst k2
   by_cases hl:ks.length=0
   · have hl2:(ks.length:Int)=0:=by omega
     have sk0:=il;rw [hl2] at sk0
     by_cases hs:s=ByteArray.mk #[]
     · subst hs
       by_cases hm:m=0
       · subst hm
         simp only [decide_true,decide_false,Bool.not_true,cond_true,cond_false,Bool.true_and,Bool.and_true,Bool.or_false,Option.bind_some,Int.reduceEq,nodQ,hl,Int.natCast_zero,Int.lt_irrefl,show ¬(20:Int)<0 by omega,sk0]
         cases seqQ ((i:Int)-1) base ks <;> rfl
       · simp only [decide_true,decide_false,Bool.not_true,Bool.not_false,cond_true,cond_false,Bool.true_and,Bool.false_and,Bool.and_true,Bool.and_false,Bool.or_false,Int.reduceEq,nodQ,hl,Int.natCast_zero,hm]
     · simp only [decide_true,decide_false,Bool.not_true,Bool.not_false,cond_true,cond_false,Bool.false_and,Bool.and_true,Bool.or_false,Int.reduceEq,nodQ,hl,Int.natCast_zero,hs]
   · have hl2 : ¬(ks.length:Int)=0:=by omega
     simp only [decide_true,decide_false,Bool.not_false,cond_true,cond_false,Bool.false_and,Bool.and_false,Bool.or_false,Int.reduceEq,nodQ,hl,hl2]
     cases decide (s=ByteArray.mk #[]) <;> cases decide (m=0) <;> rfl
 by_cases k3:k=3
 · subst k3
   by_cases hl:ks.length=0
   · have hl2:(ks.length:Int)=0:=by omega
     have sk0:=il;rw [hl2] at sk0
     by_cases hs:s=ByteArray.mk #[]
     · subst hs
       by_cases hm:m=0
       · subst hm
         simp only [decide_true,decide_false,Bool.not_true,cond_true,cond_false,Bool.true_and,Bool.and_true,Bool.or_true,Bool.or_false,Option.bind_some,Int.reduceEq,nodQ,hl,Int.natCast_zero,Int.lt_irrefl,show ¬(20:Int)<0 by omega,sk0]
         cases seqQ ((i:Int)-1) base ks <;> rfl
       · simp only [decide_true,decide_false,Bool.not_true,Bool.not_false,cond_true,cond_false,Bool.true_and,Bool.false_and,Bool.and_true,Bool.and_false,Bool.or_true,Bool.or_false,Int.reduceEq,nodQ,hl,Int.natCast_zero,hm]
     · simp only [decide_true,decide_false,Bool.not_true,Bool.not_false,cond_true,cond_false,Bool.false_and,Bool.and_true,Bool.or_true,Bool.or_false,Int.reduceEq,nodQ,hl,Int.natCast_zero,hs]
   · have hl2 : ¬(ks.length:Int)=0:=by omega
     simp only [decide_true,decide_false,Bool.not_false,cond_true,cond_false,Bool.false_and,Bool.and_false,Bool.or_true,Bool.or_false,Int.reduceEq,nodQ,hl,hl2]
     cases decide (s=ByteArray.mk #[]) <;> cases decide (m=0) <;> rfl
 by_cases k4:k=4
 · subst k4
   by_cases hl:ks.length=0
   · have hl2:(ks.length:Int)=0:=by omega
     have sk0:=il;rw [hl2] at sk0
     by_cases hs:s=ByteArray.mk #[]
     · subst hs
       by_cases hm:m=0
       · subst hm
         simp only [decide_true,decide_false,Bool.not_true,cond_true,cond_false,Bool.true_and,Bool.and_true,Bool.or_true,Option.bind_some,Int.reduceEq,nodQ,hl,Int.natCast_zero,Int.lt_irrefl,show ¬(20:Int)<0 by omega,sk0]
         cases seqQ ((i:Int)-1) base ks <;> rfl
       · simp only [decide_true,decide_false,Bool.not_true,Bool.not_false,cond_true,cond_false,Bool.true_and,Bool.false_and,Bool.and_true,Bool.and_false,Bool.or_true,Int.reduceEq,nodQ,hl,Int.natCast_zero,hm]
     · simp only [decide_true,decide_false,Bool.not_true,Bool.not_false,cond_true,cond_false,Bool.false_and,Bool.and_true,Bool.or_true,Int.reduceEq,nodQ,hl,Int.natCast_zero,hs]
   · have hl2 : ¬(ks.length:Int)=0:=by omega
     simp only [decide_true,decide_false,Bool.not_false,cond_true,cond_false,Bool.false_and,Bool.and_false,Bool.or_true,Int.reduceEq,nodQ,hl,hl2]
     cases decide (s=ByteArray.mk #[]) <;> cases decide (m=0) <;> rfl
 by_cases k5:k=5
 · subst k5
   by_cases hl:ks.length=1
   · have hl2:(ks.length:Int)=1:=by omega
     have sk0:=il;rw [hl2] at sk0
     by_cases hs:s=ByteArray.mk #[]
     · subst hs
       by_cases h1:m<0
       · have : ¬0≤m:=by omega
         simp only [decide_true,decide_false,Bool.not_true,Bool.not_false,cond_true,cond_false,Bool.true_and,Bool.false_and,Bool.and_false,Bool.or_false,Int.reduceEq,nodQ,g5,e_int,e_toInt,hl,Int.natCast_one,h1,inQ,this]
       · by_cases h2:20<m
         · have : ¬m≤20:=by omega
           simp only [decide_true,decide_false,Bool.not_true,Bool.not_false,cond_true,cond_false,Bool.true_and,Bool.false_and,Bool.and_false,Bool.or_false,Int.reduceEq,nodQ,g5,e_int,e_toInt,hl,Int.natCast_one,h1,h2,inQ,this]
         · have h3:0≤m:=by omega
           have h4:m≤20:=by omega
           simp only [decide_true,decide_false,Bool.not_true,Bool.not_false,cond_true,cond_false,Bool.true_and,Bool.and_true,Bool.or_false,Option.bind_some,Int.reduceEq,nodQ,g5,e_int,e_toInt,hl,Int.natCast_one,h1,h2,h3,h4,inQ,sk0]
           cases seqQ ((i:Int)-1) base ks <;> rfl
     · simp only [decide_true,decide_false,Bool.not_true,Bool.not_false,cond_true,cond_false,Bool.true_and,Bool.false_and,Bool.or_false,Int.reduceEq,nodQ,g5,e_int,e_toInt,hl,Int.natCast_one,hs]
   · have hl2 : ¬(ks.length:Int)=1:=by omega
     simp only [decide_true,decide_false,Bool.not_false,cond_true,cond_false,Bool.false_and,Bool.and_false,Bool.or_false,Int.reduceEq,nodQ,g5,e_int,e_toInt,hl,hl2]
     cases decide (s=ByteArray.mk #[]) <;> rfl
 by_cases k6:k=6
 · subst k6
   by_cases hl:ks.length=1
   · have hl2:(ks.length:Int)=1:=by omega
     have sk0:=il;rw [hl2] at sk0
     by_cases hs:s=ByteArray.mk #[]
     · subst hs
       by_cases hm:m=0
       · subst hm
         simp only [decide_true,decide_false,Bool.not_true,Bool.not_false,cond_true,cond_false,Bool.true_and,Bool.and_true,Bool.or_false,Option.bind_some,Int.reduceEq,nodQ,g6,e_int,e_toInt,hl,Int.natCast_one,Int.lt_irrefl,show ¬(20:Int)<0 by omega,sk0]
         cases seqQ ((i:Int)-1) base ks <;> rfl
       · simp only [decide_true,decide_false,Bool.not_true,Bool.not_false,cond_true,cond_false,Bool.true_and,Bool.false_and,Bool.and_false,Bool.or_false,Int.reduceEq,nodQ,g6,e_int,e_toInt,hl,Int.natCast_one,hm]
     · simp only [decide_true,decide_false,Bool.not_true,Bool.not_false,cond_true,cond_false,Bool.true_and,Bool.false_and,Bool.or_false,Int.reduceEq,nodQ,g6,e_int,e_toInt,hl,Int.natCast_one,hs]
   · have hl2 : ¬(ks.length:Int)=1:=by omega
     simp only [decide_true,decide_false,Bool.not_false,cond_true,cond_false,Bool.false_and,Bool.and_false,Bool.or_false,Int.reduceEq,nodQ,g6,e_int,e_toInt,hl,hl2]
     cases decide (s=ByteArray.mk #[]) <;> rfl
 by_cases k7:k=7
 · subst k7
   have sk0:=il
   by_cases hs:s=ByteArray.mk #[]
   · subst hs
     by_cases hm:m=0
     · subst hm
       simp only [decide_true,decide_false,Bool.not_true,cond_true,cond_false,Bool.true_and,Bool.and_true,Bool.or_false,Option.bind_some,Int.reduceEq,nodQ,Int.lt_irrefl,show ¬(20:Int)<0 by omega,sk0]
       cases seqQ ((i:Int)-1) base ks <;> rfl
     · simp only [decide_true,decide_false,Bool.not_true,Bool.not_false,cond_true,cond_false,Bool.true_and,Bool.false_and,Bool.and_false,Bool.or_false,Int.reduceEq,nodQ,hm]
   · simp only [decide_true,decide_false,Bool.not_false,cond_true,cond_false,Bool.false_and,Bool.or_false,Int.reduceEq,nodQ,hs]
 simp only [decide_false,cond_false,Bool.false_and,Bool.or_false,nodQ,k1,k2,k3,k4,k5,k6,k7]
theorem li0 (d:List LNodeD) (hd:d.length≤300) (ht:totLNode d≤1048576) : ∀n i:Nat,i+n=d.length →
 Li_LayoutOK_0 (d.map avLNode) (d.length:Int) (i:Int) (dI (ones (ups (kdA d) i)))=some (bif allF (implQ (kdA d) (nqA d)) i n then .inr (d.map avLNode,dI (ones (ups (kdA d) d.length))) else .inl false)
 | 0,i,h=>by
   obtain rfl:i=d.length:=by omega
   refine li_LayoutOK_0 _ _ _ _ ?_
   simp [allF]
 | n+1,i,h=>by
   have hi:i<d.length:=by omega
   have ih:=li0 d hd ht n (i+1) (by omega)
   obtain ⟨m,e⟩:=ln_impl d i hi hd ht (ups (kdA d) i)
   have hq:implQ (kdA d) (nqA d) i=(nqA d i&&seqQ ((i:Int)-1) (ups (kdA d) i) (kdA d i)):=rfl
   refine li_LayoutOK_0 _ _ _ _ ?_
   simp only [ups] at ih
   simp only [lt_true hi,cond_true,e,Option.bind_some,allF,hq,wrap_i (show i<9000000000000000000 by omega)]
   cases (nqA d i&&seqQ ((i:Int)-1) (ups (kdA d) i) (kdA d i)) with
   | false=>rfl
   | true=>simp only [cond_true,Bool.not_true,cond_false,ih,Bool.true_and]
theorem dI_ones_len : ∀(l:List Int),l.Nodup→(dI (ones l)).length=l.length:=by
 intro l
 induction hn:l.length generalizing l with
 | zero=>intro _;rw [List.length_eq_zero_iff] at hn;subst hn;rfl
 | succ n ih=>
   intro h
   have hne:l≠[]:=by intro q;rw [q] at hn;simp at hn
   obtain ⟨l,x,rfl⟩ : ∃l' x,l=l'++[x]:=⟨l.dropLast,l.getLast hne,(List.dropLast_concat_getLast hne).symm⟩
   rw [List.length_append,List.length_singleton] at hn
   rw [List.nodup_append] at h
   have hx:x∉l:=fun q=>h.2.2 x q x (by simp) rfl
   have hany:(l.any fun y=>decide (x=y))=false:=by
    cases g:l.any fun y=>decide (x=y) with
    | false=>rfl
    | true=>
      rw [List.any_eq_true] at g
      obtain ⟨y,hy,e⟩:=g
      exact absurd (of_decide_eq_true e▸hy) hx
   have hl:=dlast_ones l x
   rw [hany] at hl
   rw [ones_snoc,dI_snoc,mpIns_len (dI_ord _),dI_get,hl,ih l (by omega) h.1]
   rfl
theorem ls2 (d:List LNodeD) (hd:d.length≤300) (h1:1≤d.length) (l:List Int):Ls_LayoutOK_2 (d.map avLNode) 0 (cntA d.length l)=some (bif allN (fun j=>decide (cntI (j:Int) l=1)) (d.length-1) then .inr () else .inl false):=by
 have w1:IntKind.wrap .i64 ((d.length:Int)-1)=((d.length-1:Nat):Int):=by rw [wrap64 (by omega) (by omega)];omega
 have e:=loop_all (fun i=>Ls_LayoutOK_2 (d.map avLNode) (i:Int) (cntA d.length l)) (d.length-1) (fun j=>decide (cntI (j:Int) l=1)) () (by
  refine ls_LayoutOK_2 _ _ _ ?_
  simp only [List.length_map,w1,lt_self,cond_false]) (fun i hi y hy=>by
  refine ls_LayoutOK_2 _ _ _ ?_
  rw [←hy]
  have hi2:i<d.length:=by omega
  simp only [List.length_map,w1,lt_true hi,lt_true hi2,d0_true,Bool.and_self,cond_true,Int.toNat_natCast,cntA_len,blt_true hi2,cntA_get l hi2,e_int,e_toInt,wrap_i (show i<9000000000000000000 by omega)]
  by_cases q:cntI (i:Int) l=1
  · have q2:((cntI (i:Int) l:Nat):Int)=1:=by omega
    rw [decide_eq_true q,decide_eq_true q2];rfl
  · have q2 : ¬((cntI (i:Int) l:Nat):Int)=1:=by omega
    rw [decide_eq_false q,decide_eq_false q2];rfl)
 simpa using e
theorem ly_spec (d:List LNodeD) (ht:totLNode d≤1048576):Fs_LayoutOK (d.map avLNode)=some (layQ d):=by
 refine us_LayoutOK _ ?_
 unfold layQ
 simp only [List.length_map,s61',Option.bind_some]
 cases g:inQ 1 300 d.length with
 | false=>rfl
 | true=>
   have hd:1≤d.length∧d.length≤300:=by simp only [inQ,Bool.and_eq_true,decide_eq_true_eq] at g;omega
   have e:=ls0 d hd.2 ht d.length 0 (by omega)
   simp only [ups,Int.natCast_zero] at e
   have h0:(0:Int)≤(d.length:Int):=by omega
   have lw:=layout_law (kdA d) (nqA d) d.length (by omega)
   simp only [Bool.not_true,cond_false,gr_spec d hd.2,Option.bind_some,Bool.true_and,←lw]
   cases decide (12<(grpN d:Int)) with
   | true=>rfl
   | false=>
     have cb:capB d.length 8=true:=capB_le (by omega)
     simp only [cond_false,h0,Int.le_refl,decide_true,Int.toNat_natCast,cb,Bool.and_self,cond_true,cntA_zero,e,Bool.not_false,Bool.true_and]
     cases allF (specQ (kdA d) (nqA d)) 0 d.length with
     | false=>rfl
     | true=>
       simp only [cond_true,Option.bind_some,Sum.elim_inr,ls2 d hd.2 hd.1,Bool.true_and]
       cases allN (fun j=>decide (cntI (j:Int) (ups (kdA d) d.length)=1)) (d.length-1) <;> rfl
theorem ly_impl (d:List LNodeD) (ht:totLNode d≤1048576):Fi_LayoutOK (d.map avLNode)=some (layQ d):=by
 refine ui_LayoutOK _ ?_
 unfold layQ
 simp only [List.length_map]
 by_cases g1:(d.length:Int)<1
 · have:inQ 1 300 d.length=false:=by rw [Bool.eq_false_iff];simp only [inQ,ne_eq,Bool.and_eq_true,decide_eq_true_eq];omega
   simp only [g1,decide_true,cond_true,this,Bool.false_and]
 by_cases g2:(300:Int)<(d.length:Int)
 · have:inQ 1 300 d.length=false:=by rw [Bool.eq_false_iff];simp only [inQ,ne_eq,Bool.and_eq_true,decide_eq_true_eq];omega
   simp only [g1,g2,decide_true,decide_false,cond_true,cond_false,this,Bool.false_and]
 have hd:1≤d.length∧d.length≤300:=by omega
 have hq:inQ 1 300 d.length=true:=by simp only [inQ,Bool.and_eq_true,decide_eq_true_eq];omega
 have e:=li0 d hd.2 ht d.length 0 (by omega)
 simp only [ups,Int.natCast_zero] at e
 have e0:dI (ones [])=[]:=rfl
 rw [e0] at e
 simp only [g1,g2,decide_false,cond_false,gr_impl d hd.2,Option.bind_some,hq,Bool.true_and]
 cases decide (12<(grpN d:Int)) with
 | true=>rfl
 | false=>
   simp only [cond_false,e,Bool.not_false,Bool.true_and]
   cases g:allF (implQ (kdA d) (nqA d)) 0 d.length with
   | false=>rfl
   | true=>
     have nd:=((two_ways (kdA d) (nqA d) d.length 0 (by simp [ups])).1 g).2
     rw [Nat.zero_add] at nd
     have w1:IntKind.wrap .i64 ((d.length:Int)-1)=((d.length-1:Nat):Int):=by rw [wrap64 (by omega) (by omega)];omega
     simp only [cond_true,Option.bind_some,Sum.elim_inr,dI_ones_len _ nd,List.length_map,w1,Bool.true_and]
     by_cases q:(ups (kdA d) d.length).length=d.length-1
     · have q2:(((ups (kdA d) d.length).length:Nat):Int)=((d.length-1:Nat):Int):=by omega
       rw [decide_eq_true q,decide_eq_true q2]
     · have q2 : ¬(((ups (kdA d) d.length).length:Nat):Int)=((d.length-1:Nat):Int):=by omega
       rw [decide_eq_false q,decide_eq_false q2]
end Go.Proofs.Ytnbpmjfemeeecaa
