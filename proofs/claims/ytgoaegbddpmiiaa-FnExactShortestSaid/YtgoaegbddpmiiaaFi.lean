/- Shortest: the program's rounds of words, and how both sides go on; no condition. -/
import Derived.Test.YtgoaegbddpmiiaaFh
namespace Go.Proofs.Ytgoaegbddpmiiaa
open Go.VK AVal
theorem plain_iv (l:List Int):plainL (l.map iv)=true:=by
 unfold plainL
 rw [List.all_eq_true]
 intro x hx
 obtain ⟨v,_,rfl⟩:=List.mem_map.1 hx
 rfl
def nOf (z:Int):Int:=if 0≤z∧z≤200 then z else -1
section
variable {nt nn:Nat} {ps:List ProdD} {T Ns:List AVal} {own:Int} {L:Nat→Int}
theorem sum_take_le {l:List Int} (k:Nat) (h : ∀s∈l,0≤lenL nt L s):sumI ((l.take k).map (lenL nt L))≤sumI (l.map (lenL nt L)):=by
 have e:sumI (l.map (lenL nt L))=sumI ((l.take k).map (lenL nt L))+sumI ((l.drop k).map (lenL nt L)):=by
  rw [←sumI_app,←List.map_append,List.take_append_drop]
 have:=sumI_nn (l:=(l.drop k).map (lenL nt L)) fun x hx=>by
  obtain ⟨s,hs,rfl⟩:=List.mem_map.1 hx
  exact h s (List.mem_of_mem_drop hs)
 omega
theorem sum_ii (h60:nt≤60) (hn:nn≤100) (hL : ∀i,L i≤1000) (l:List Int) (hl:l.length≤12) (hs : ∀s∈l,0≤s∧s<(nt:Int)+nn)
 (g:Bool) (li:Int) (P:List AVal) (m i:Int) (X W:List AVal) (p0:Int) (p1:List AVal) (p2:ByteArray) (p3 p4:Int) (A B D E:List AVal) :
 Li_Shortest_1_1 g li 0 P m i (l.map iv) (l.length:Int) 0 X W p0 p1 p2 p3 p4 T Ns own P T Ns own P (nt:Int) (nn:Int) A B (rI nn L) D E=some (g,li,nOf (sumL nt L l),P,m,i,X,W,p0,p1,p2,p3,p4,T,Ns,own,P,T,Ns,own,P,(nt:Int),(nn:Int),A,B,rI nn L,D,E):=by
 have hlen : ∀s,lenL nt L s≤1000:=fun s=>by unfold lenL;split;omega;exact hL _
 have hfv:AVal.agg [.ro false 3 T,.ro false 1 Ns,.int .i64 own,.ro false 5 P,.int .i64 (nt:Int),.int .i64 (nn:Int),.ro false 1 (asRoL A),.ro false 1 (asRoL B),.ro false 1 (rI nn L),.ro false 1 (asRoL D),.ro false 1 (asRoL E)]=fV T Ns own P nt nn (asRoL A) (asRoL B) (rI nn L) (asRoL D) (asRoL E):=rfl
 obtain ⟨t,e1,rfl⟩:=loop_ex (fun k (s:Int)=>Li_Shortest_1_1 g li s P m i (l.map iv) (l.length:Int) (k:Int) X W p0 p1 p2 p3 p4 T Ns own P T Ns own P (nt:Int) (nn:Int) A B (rI nn L) D E) l.length (fun k s=>(∀x∈l.take k,0≤lenL nt L x)∧s=sumI ((l.take k).map (lenL nt L))∧s≤200)
  (fun t=>t=(g,li,nOf (sumL nt L l),P,m,i,X,W,p0,p1,p2,p3,p4,T,Ns,own,P,T,Ns,own,P,(nt:Int),(nn:Int),A,B,rI nn L,D,E)) (fun s hi=>⟨_,li_Shortest_1_1 _ _ _ _ _ _ _ _ _ _ _ _ _ _ _ _ _ _ _ _ _ _ _ _ _ _ _ _ _ _ _ (by simp only [lt_self,cond_false] <;> rfl),by
    obtain ⟨h1,h2,h3⟩:=hi
    rw [List.take_length] at h1 h2
    have h0:0≤s:=by rw [h2];exact sumI_nn fun x hx=>by obtain ⟨s,hs,rfl⟩:=List.mem_map.1 hx;exact h1 s hs
    have hsl:=sumL_all (nt:=nt) (L:=L) (l:=l) ⟨h1,rfl⟩
    have:nOf (sumL nt L l)=s:=by unfold nOf;rw [hsl,←h2,if_pos (by omega)];omega
    rw [this]⟩) (fun k hk s hi=>by
    have hm:=hs _ (getD_in hk)
    have w:IntKind.wrap .i64 ((k:Int)+1)=((k+1:Nat):Int):=wrap_i (by omega)
    have h0:0≤sumI ((l.take k).map (lenL nt L)):=sumI_nn fun x hx=>by obtain ⟨s,hs,rfl⟩:=List.mem_map.1 hx;exact hi.1 s hs
    have e:l.getD k 0=l[k]:=by simp [List.getD_eq_getElem?_getD,hk]
    have tk:=List.take_succ_eq_append_getElem hk
    have fl:(if l.getD k 0<(nt:Int) then 1 else L (sy nt (l.getD k 0)))=lenL nt L (l.getD k 0):=rfl
    have kl:=len_i (T:=T) (Ns:=Ns) (own:=own) (P:=P) (a:=asRoL A) (b:=asRoL B) (d:=asRoL D) (e:=asRoL E) h60 hn L hm.1 hm.2
    rw [fl] at kl
    have hup:=hlen (l.getD k 0)
    have hs2:sumI ((l.take (k+1)).map (lenL nt L))=s+lenL nt L (l.getD k 0):=by
     rw [tk,List.map_append,sumI_app,hi.2.1,e];simp [sumI]
    have hsb:=hi.2
    by_cases hneg:lenL nt L (l.getD k 0)<0
    · refine .inl ⟨_,li_Shortest_1_1 _ _ _ _ _ _ _ _ _ _ _ _ _ _ _ _ _ _ _ _ _ _ _ _ _ _ _ _ _ _ _ (by simp only [List.length_map,lt_true hk,d0_true,Bool.and_self,cond_true,Int.toNat_natCast,getD_map' iv 0 hk,e_int,e_toInt,rI_ro,hfv,kl,Option.bind_some,hneg,decide_true] <;> rfl),?_⟩
      have:nOf (sumL nt L l) = -1:=by unfold nOf;rw [sumL_no hk hneg,if_neg (by omega)]
      rw [this]
    have w2:IntKind.wrap .i64 (s+lenL nt L (l.getD k 0))=s+lenL nt L (l.getD k 0):=wrap64 (by omega) (by omega)
    by_cases hbig:200<s+lenL nt L (l.getD k 0)
    · refine .inl ⟨_,li_Shortest_1_1 _ _ _ _ _ _ _ _ _ _ _ _ _ _ _ _ _ _ _ _ _ _ _ _ _ _ _ _ _ _ _ (by simp only [List.length_map,lt_true hk,d0_true,Bool.and_self,cond_true,Int.toNat_natCast,getD_map' iv 0 hk,e_int,e_toInt,rI_ro,hfv,kl,Option.bind_some,hneg,decide_false,cond_false,w2,hbig,decide_true] <;> rfl),?_⟩
      have:nOf (sumL nt L l) = -1:=by
       unfold nOf
       rw [if_neg]
       intro q
       obtain ⟨a1,a2⟩:=sumL_nn q.1
       have:=sum_take_le (k+1) a1
       omega
      rw [this]
    · refine .inr ⟨s+lenL nt L (l.getD k 0),⟨fun x hx => ?_,hs2.symm,by omega⟩,fun y hy=>li_Shortest_1_1 _ _ _ _ _ _ _ _ _ _ _ _ _ _ _ _ _ _ _ _ _ _ _ _ _ _ _ _ _ _ _ ?_⟩
      · rw [tk] at hx
        rcases List.mem_append.1 hx with q|q
        · exact hi.1 x q
        · simp only [List.mem_singleton] at q;rw [q,←e];omega
      · rw [←hy]
        simp only [List.length_map,lt_true hk,d0_true,Bool.and_self,cond_true,Int.toNat_natCast,getD_map' iv 0 hk,e_int,e_toInt,rI_ro,hfv,kl,Option.bind_some,hneg,decide_false,cond_false,w2,hbig,w]) l.length 0 (by omega) 0 ⟨fun x hx=>by simp at hx,rfl,by omega⟩
 simp only [Int.natCast_zero] at e1
 exact e1
theorem spell_ii (h60:nt≤60) (hL : ∀i,L i≤1000) {H:Nat→Bool} {W:Nat→List Int} (hw:WI nt L H W) (l:List Int) (hl:l.length≤12) (hn:nn≤100) (hs : ∀s∈l,0≤s∧s<(nt:Int)+nn)
 (g:Bool) (li:Int) (P:List AVal) (m i:Int) (A B D E:List AVal) :
 ∃t,Li_Shortest_1_2 g li true P m i (l.map iv) (l.length:Int) 0 (rB nn H) (bT nn W) [] T Ns own P T Ns own P (nt:Int) (nn:Int) A B (rI nn L) D E=some t ∧ ∃acc,t=(g,li,known nt H l,P,m,i,rB nn H,bT nn W,acc,T,Ns,own,P,T,Ns,own,P,(nt:Int),(nn:Int),A,B,rI nn L,D,E)∧(known nt H l=true→acc=(spell nt W l).map iv):=by
 obtain ⟨t,e1,e2⟩:=loop_ex (fun k (_:Unit)=>Li_Shortest_1_2 g li true P m i (l.map iv) (l.length:Int) (k:Int) (rB nn H) (bT nn W) ((spell nt W (l.take k)).map iv) T Ns own P T Ns own P (nt:Int) (nn:Int) A B (rI nn L) D E) l.length (fun k _=>known nt H (l.take k)=true∧(spell nt W (l.take k)).length≤1000*k)
  (fun t => ∃acc,t=(g,li,known nt H l,P,m,i,rB nn H,bT nn W,acc,T,Ns,own,P,T,Ns,own,P,(nt:Int),(nn:Int),A,B,rI nn L,D,E)∧(known nt H l=true→acc=(spell nt W l).map iv)) (fun s hi=>⟨_,li_Shortest_1_2 _ _ _ _ _ _ _ _ _ _ _ _ _ _ _ _ _ _ _ _ _ _ _ _ _ _ _ (by simp only [lt_self,cond_false] <;> rfl),(spell nt W l).map iv,by
    have:=hi.1
    rw [List.take_length] at this
    rw [List.take_length,this],fun _=>rfl⟩) (fun k hk s hi=>by
    have hm:=hs _ (getD_in hk)
    have w:IntKind.wrap .i64 ((k:Int)+1)=((k+1:Nat):Int):=wrap_i (by omega)
    have st:=spell_take (nt:=nt) (W:=W) hk
    have kt:=known_take (nt:=nt) (H:=H) hk
    by_cases hv:l.getD k 0<(nt:Int)
    · have kn:known nt H (l.take (k+1))=true:=by rw [kt,hi.1,decide_eq_true hv];rfl
      have cc:capB ((spell nt W (l.take k)).length+1) 8=true:=capB_le (by have:=hi.2;omega)
      rw [if_pos hv] at st
      have em:(spell nt W (l.take k)).map iv++[AVal.int .i64 (l.getD k 0)]=(spell nt W (l.take (k+1))).map iv:=by rw [st];simp [iv]
      refine .inr ⟨(),⟨kn,known_len hw hL hk hi.2 kn⟩,fun y hy=>li_Shortest_1_2 _ _ _ _ _ _ _ _ _ _ _ _ _ _ _ _ _ _ _ _ _ _ _ _ _ _ _ ?_⟩
      rw [←hy]
      simp only [List.length_map,lt_true hk,d0_true,Bool.and_self,cond_true,Int.toNat_natCast,getD_map' iv 0 hk,e_int,e_toInt,hv,decide_true,cc,em,w]
    · have e1:=sy_eq (nt:=nt) (s:=l.getD k 0) (by omega) h60 (by omega)
      have e2:sy nt (l.getD k 0)<nn:=by unfold sy;omega
      cases hh:H (sy nt (l.getD k 0)) with
      | false=>
        have kn:=known_no hk hv hh
        refine .inl ⟨_,li_Shortest_1_2 _ _ _ _ _ _ _ _ _ _ _ _ _ _ _ _ _ _ _ _ _ _ _ _ _ _ _ (by simp only [List.length_map,lt_true hk,d0_true,Bool.and_self,cond_true,cond_false,Int.toNat_natCast,getD_map' iv 0 hk,e_int,e_toInt,hv,decide_false,e1,rB_len,lt_true e2,blt_true e2,rB_get _ e2,sh_bool,to_bool,hh] <;> rfl),_,by rw [kn],fun q=>by rw [kn] at q;cases q⟩
      | true=>
        have kn:known nt H (l.take (k+1))=true:=by rw [kt,hi.1,hh,Bool.or_true];rfl
        have hlen:=known_len hw hL hk hi.2 kn
        rw [if_neg hv] at st
        have cc:capB ((spell nt W (l.take k)).length+(W (sy nt (l.getD k 0))).length) 8=true:=capB_le (by rw [st,List.length_append] at hlen;omega)
        have em:(spell nt W (l.take k)).map iv++(W (sy nt (l.getD k 0))).map iv=(spell nt W (l.take (k+1))).map iv:=by rw [st];simp
        refine .inr ⟨(),⟨kn,hlen⟩,fun y hy=>li_Shortest_1_2 _ _ _ _ _ _ _ _ _ _ _ _ _ _ _ _ _ _ _ _ _ _ _ _ _ _ _ ?_⟩
        rw [←hy]
        simp only [List.length_map,lt_true hk,d0_true,Bool.and_self,cond_true,cond_false,Int.toNat_natCast,getD_map' iv 0 hk,e_int,e_toInt,hv,decide_false,e1,rB_len,lt_true e2,blt_true e2,rB_get _ e2,sh_bool,to_bool,hh,bT_len,bT_get _ e2,sh_own,sho_own,el_own,plain_iv,cc,em,Bnd,w]) l.length 0 (by omega) () ⟨rfl,by simp [spell]⟩
 have e0:(spell nt W (l.take 0)).map iv=[]:=rfl
 simp only [Int.natCast_zero,e0] at e1
 exact ⟨t,e1,e2⟩
theorem round_ii (h:RB nt nn ps) (hL : ∀i,-1≤L i∧L i≤1000) (A B D E:List AVal) {H:Nat→Bool} {W:Nat→List Int} (hw:WI nt L H W) :
 Fi_Shortest_1 T Ns own (ps.map avProd) (rB nn H) (bT nn W) T Ns own (ps.map avProd) (nt:Int) (nn:Int) A B (rI nn L) D E=some ((rnd nt L ps (false,H,W)).1,T,Ns,own,ps.map avProd,rB nn (rnd nt L ps (false,H,W)).2.1,bT nn (rnd nt L ps (false,H,W)).2.2,T,Ns,own,ps.map avProd,(nt:Int),(nn:Int),A,B,rI nn L,D,E):=by
 have hp120:=h.p120
 have h60:=h.t60
 have hn100:=h.n100
 have e0:=loop_run (fun i (s:SW)=>Li_Shortest_1_0 s.1 (ps.map avProd) (ps.length:Int) (i:Int) (rB nn s.2.1) (bT nn s.2.2) T Ns own (ps.map avProd) T Ns own (ps.map avProd) (nt:Int) (nn:Int) A B (rI nn L) D E) ps.length (fun i s=>stW nt L (ps.getD i pD) s) (fun s=>(s.1,T,Ns,own,ps.map avProd,rB nn s.2.1,bT nn s.2.2,T,Ns,own,ps.map avProd,(nt:Int),(nn:Int),A,B,rI nn L,D,E)) (fun _ s=>WI nt L s.2.1 s.2.2)
  (fun s hs=>li_Shortest_1_0 _ _ _ _ _ _ _ _ _ _ _ _ _ _ _ _ _ _ _ _ _ (by simp only [lt_self,cond_false])) (fun i hi s hs y hy=>by
    obtain ⟨b,H,W⟩:=s
    simp only at hs hy ⊢
    have hm:ps.getD i pD∈ps:=getD_mem pD hi
    have w:IntKind.wrap .i64 ((i:Int)+1)=((i+1:Nat):Int):=wrap_i (by omega)
    have hgd:=getD_map' avProd pD hi
    generalize hq:ps.getD i pD=p at hm hgd hy
    have hlf:=h.lf p hm
    have hsl:=h.sy_lt hm
    have e1:=sy_eq hlf.1 h60 (by omega)
    have k1:=sum_ii (T:=T) (Ns:=Ns) (own:=own) (L:=L) h60 hn100 (fun i=>(hL i).2) p.2.1 (h.rl p hm) (h.rs p hm)
    refine li_Shortest_1_0 _ _ _ _ _ _ _ _ _ _ _ _ _ _ _ _ _ _ _ _ _ ?_
    rw [←hy]
    unfold stW goW
    simp only [List.length_map,lt_true hi,d0_true,Bool.and_self,cond_true,Int.toNat_natCast,hgd,sh_Prod,c0_Prod,c1_Prod,e1,k1,Option.bind_some,rI_len,lt_true hsl,blt_true hsl,rI_get _ hsl,sh_int,to_int,w]
    by_cases hok:0≤L (sy nt p.1)∧L (sy nt p.1)≤200∧sumL nt L p.2.1=L (sy nt p.1)
    · obtain ⟨q1,q2,q3⟩:=hok
      have n1:nOf (L (sy nt p.1))=L (sy nt p.1):=by unfold nOf;rw [if_pos (by omega)]
      have n2 : ¬L (sy nt p.1)<0:=by omega
      obtain ⟨_,k2,acc,rfl,k3⟩:=spell_ii (T:=T) (Ns:=Ns) (own:=own) h60 (fun i=>(hL i).2) hs p.2.1 (h.rl p hm) hn100 (h.rs p hm) b ((sy nt p.1:Nat):Int) (ps.map avProd) (ps.length:Int) (i:Int) A B D E
      simp only [n1,n2,q1,q2,q3,decide_true,decide_false,Bool.not_true,cond_false,Bool.true_and,k2,Option.bind_some]
      cases hk:known nt H p.2.1 with
      | false=>simp only [cond_false,w,Bool.false_and,Bool.false_eq_true,if_false]
      | true=>
        obtain rfl:=k3 hk
        obtain ⟨j1,j2⟩:=spell_ok h hm hs q1 q2 q3 hk
        simp only [cond_true,d0_true,rB_len,lt_true hsl,blt_true hsl,Bool.and_self,Int.toNat_natCast,rB_get _ hsl,sh_bool,to_bool,Bool.true_and]
        cases hh:H (sy nt p.1) with
        | false=>simp only [Bool.not_false,cond_true,bT_len,lt_true hsl,blt_true hsl,Bool.and_self,bT_get _ hsl,ag_own,ag_bool,bT_set,rB_set,w,Bool.true_or,if_true]
        | true=>
          have hlw:=hs.len _ hh
          obtain ⟨r,c1,c2⟩:=cmp_i (a:=spell nt W p.2.1) (b:=W (sy nt p.1)) (by omega) (by omega)
          have ro1:asRo (.own 1 ((W (sy nt p.1)).map iv))=.ro false 1 ((W (sy nt p.1)).map iv):=by simp only [asRo,asRoL_map asRo_iv]
          have sq:slQ (.own 1 ((W (sy nt p.1)).map iv))=true:=rfl
          have sr:CT.shro (.slice 1) (.ro false 1 ((W (sy nt p.1)).map iv))=true:=rfl
          simp only [Bool.not_true,cond_false,bT_len,lt_true hsl,blt_true hsl,Bool.and_self,cond_true,bT_get _ hsl,sh_own,sq,ro1,sr,el_ro,asRoL_map asRo_iv,c1,Option.bind_some,c2,Bool.false_or]
          cases lexLt (spell nt W p.2.1) (W (sy nt p.1)) with
          | true=>simp only [cond_true,ag_own,ag_bool,Bool.not_false,Bool.and_self,bT_set,rB_set,w,if_true]
          | false=>simp only [cond_false,w,Bool.false_eq_true,if_false]
    · have hno:(decide (0≤L (sy nt p.1))&&(decide (L (sy nt p.1)≤200)&&(decide (sumL nt L p.2.1=L (sy nt p.1))&&(known nt H p.2.1&&(!H (sy nt p.1)||lexLt (spell nt W p.2.1) (W (sy nt p.1)))))))=false:=by
       rw [Bool.eq_false_iff]
       intro q;apply hok
       simp only [Bool.and_eq_true,decide_eq_true_eq] at q
       exact ⟨q.1,q.2.1,q.2.2.1⟩
      rw [hno]
      simp only [Bool.false_eq_true,if_false]
      by_cases n1:nOf (sumL nt L p.2.1)=L (sy nt p.1)
      · have n2:L (sy nt p.1)<0:=by
         unfold nOf at n1
         split at n1 <;> omega
        simp only [n1,n2,decide_true,Bool.not_true,cond_false,cond_true,w]
      · simp only [n1,decide_false,Bool.not_false,cond_true,w]) (fun i hi s hs=>(stW_ok h (getD_mem pD hi) hs).1) ps.length 0 (by omega) (false,H,W) hw
 refine ui_Shortest_1 _ _ _ _ _ _ _ _ _ _ _ _ _ _ _ _ _ ?_
 simp only [Int.natCast_zero] at e0
 simp only [List.length_map,e0,Option.bind_some]
 rfl
theorem words_ex (h:RB nt nn ps) (hT:T.length=nt) (hL : ∀i,-1≤L i∧L i≤1000) (x0:Int) (A B D E:List AVal) : ∀(n:Nat) (H:Nat→Bool) (W:Nat→List Int),WI nt L H W→muW nt nn L H W<n →
 ∃H' W',WI nt L H' W'∧Ls_Shortest_0 x0 (rI nn L) true T Ns own (ps.map avProd) (bT nn W) (rB nn H)=some (x0,bT nn W') ∧
  Li_around_w_0 T Ns own (ps.map avProd) (rB nn H) (bT nn W) T Ns own (ps.map avProd) (nt:Int) (nn:Int) A B (rI nn L) D E=some (T,Ns,own,ps.map avProd,rB nn H',bT nn W',T,Ns,own,ps.map avProd,(nt:Int),(nn:Int),A,B,rI nn L,D,E)
 | 0,_,_,_,q=>by omega
 | n+1,H,W,hw,q=>by
   obtain ⟨r1,r2⟩:=rnd_ok h hw
   have k1:=round_ss (own:=own) (Ns:=Ns) h hT hL x0 hw
   have k2:=round_ii (T:=T) (Ns:=Ns) (own:=own) h hL A B D E hw
   generalize rnd nt L ps (false,H,W)=s at r1 r2 k1 k2
   obtain ⟨b,H1,W1⟩:=s
   simp only at r1 r2 k1 k2
   cases b with
   | true=>
     obtain ⟨H',W',w1,w2,w3⟩:=words_ex h hT hL x0 A B D E n H1 W1 r1 (by have:=r2 rfl;omega)
     refine ⟨H',W',w1,ls_Shortest_0 _ _ _ _ _ _ _ _ _ ?_,li_around_w_0 _ _ _ _ _ _ _ _ _ _ _ _ _ _ _ _ _ ?_⟩
     · simp only [cond_true,k1,Option.bind_some,w2]
     · simp only [k2,Option.bind_some,cond_true,w3]
   | false=>
     refine ⟨H1,W1,r1,ls_Shortest_0 _ _ _ _ _ _ _ _ _ ?_,li_around_w_0 _ _ _ _ _ _ _ _ _ _ _ _ _ _ _ _ _ ?_⟩
     · simp only [cond_true,k1,Option.bind_some]
       exact ls_Shortest_0 _ _ _ _ _ _ _ _ _ (by simp only [cond_false])
     · simp only [k2,Option.bind_some,cond_false]
end
end Go.Proofs.Ytgoaegbddpmiiaa
