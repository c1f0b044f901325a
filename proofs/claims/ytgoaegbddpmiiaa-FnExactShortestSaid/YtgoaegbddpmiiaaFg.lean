/- Shortest: least lengths of the reference, and what both sides spell; no condition. -/
import Derived.Test.YtgoaegbddpmiiaaFd
import Derived.Test.YtgoaegbddpmiiaaFw
namespace Go.Proofs.Ytgoaegbddpmiiaa
open Go.VK AVal
section
variable {nt nn:Nat} {ps:List ProdD} {T Ns:List AVal} {own:Int}
theorem sum_s (hT:T.length=nt) (h60:nt≤60) (hn:nn≤100) (P:List AVal) (L:Nat→Int) (hL : ∀i,L i≤1000) (l:List Int) (hl:l.length≤12) (hs : ∀s∈l,0≤s∧s<(nt:Int)+nn):Fs_l04Sum T Ns own P (rI nn L) (l.map iv)=some (sumL nt L l):=by
 refine us_l04Sum _ _ _ _ _ _ ?_
 have hlen : ∀s,lenL nt L s≤1000:=fun s=>by unfold lenL;split;omega;exact hL _
 obtain ⟨t,e1,e2⟩:=loop_ex (fun k (s:Int)=>Ls_l04Sum_0 (rI nn L) (l.map iv) s (k:Int) T Ns own P) l.length (fun k s=>(∀x∈l.take k,0≤lenL nt L x)∧s=sumI ((l.take k).map (lenL nt L))∧s≤1000*k)
  (fun t=>(t=.inl (-1)∧sumL nt L l = -1) ∨ ∃s,t=.inr s∧(∀x∈l,0≤lenL nt L x)∧s=sumI (l.map (lenL nt L))) (fun s hi=>⟨_,ls_l04Sum_0 _ _ _ _ _ _ _ _ (by simp only [List.length_map,lt_self,cond_false] <;> rfl),.inr ⟨s,rfl,by have:=hi.1;rwa [List.take_length] at this,by have:=hi.2.1;rwa [List.take_length] at this⟩⟩) (fun k hk s hi=>by
    have hm:=hs _ (getD_in hk)
    have w:IntKind.wrap .i64 ((k:Int)+1)=((k+1:Nat):Int):=wrap_i (by omega)
    have nk:=non_s (own:=own) (Ns:=Ns) hT h60 P hm.1 (by omega)
    have h0:0≤sumI ((l.take k).map (lenL nt L)):=sumI_nn fun x hx=>by obtain ⟨s,hs,rfl⟩:=List.mem_map.1 hx;exact hi.1 s hs
    have e:l.getD k 0=l[k]:=by simp [List.getD_eq_getElem?_getD,hk]
    have tk:=List.take_succ_eq_append_getElem hk
    have nxt:0≤lenL nt L (l.getD k 0)→(∀x∈l.take (k+1),0≤lenL nt L x)∧s+lenL nt L (l.getD k 0)=sumI ((l.take (k+1)).map (lenL nt L))∧s+lenL nt L (l.getD k 0)≤1000*((k+1:Nat):Int):=fun hx=>by
     refine ⟨fun x hx2 => ?_,?_,?_⟩
     · rw [tk] at hx2
       rcases List.mem_append.1 hx2 with q|q
       · exact hi.1 x q
       · simp only [List.mem_singleton] at q;rw [q,←e];exact hx
     · rw [tk,List.map_append,sumI_app,hi.2.1,e];simp [sumI]
     · have:=hlen (l.getD k 0);have:=hi.2.2;omega
    have hsb:=hi.2.2
    by_cases hv:l.getD k 0<(nt:Int)
    · have hln:lenL nt L (l.getD k 0)=1:=by unfold lenL;rw [if_pos hv]
      have d1:decide (l.getD k 0-(nt:Int)<0)=true:=decide_eq_true (by omega)
      have w2:IntKind.wrap .i64 (s+1)=s+1:=wrap64 (by rw [hi.2.1];omega) (by omega)
      rw [hln] at nxt
      refine .inr ⟨s+1,nxt (by omega),fun y hy=>ls_l04Sum_0 _ _ _ _ _ _ _ _ ?_⟩
      rw [←hy]
      simp only [List.length_map,lt_true hk,d0_true,Bool.and_self,cond_true,Int.toNat_natCast,getD_map' iv 0 hk,e_int,e_toInt,nk,Option.bind_some,d1,w,w2]
    · have e1:l.getD k 0-(nt:Int)=((sy nt (l.getD k 0):Nat):Int):=by unfold sy;omega
      have e2:sy nt (l.getD k 0)<nn:=by unfold sy;omega
      have d1:decide (((sy nt (l.getD k 0):Nat):Int)<0)=false:=decide_eq_false (by omega)
      have hln:lenL nt L (l.getD k 0)=L (sy nt (l.getD k 0)):=by unfold lenL;rw [if_neg hv]
      rw [e1] at nk
      by_cases hneg:L (sy nt (l.getD k 0))<0
      · refine .inl ⟨_,ls_l04Sum_0 _ _ _ _ _ _ _ _ ?_,.inl ⟨rfl,sumL_no hk (by rw [hln];exact hneg)⟩⟩
        simp only [List.length_map,lt_true hk,d0_true,Bool.and_self,cond_true,cond_false,Int.toNat_natCast,getD_map' iv 0 hk,e_int,e_toInt,nk,Option.bind_some,d1,rI_len,lt_true e2,rI_get _ e2,sh_int,to_int,hneg,decide_true]
      · have hLk:=hL (sy nt (l.getD k 0))
        have w2:IntKind.wrap .i64 (s+L (sy nt (l.getD k 0)))=s+L (sy nt (l.getD k 0)):=wrap64 (by rw [hi.2.1];omega) (by omega)
        rw [hln] at nxt
        refine .inr ⟨s+L (sy nt (l.getD k 0)),nxt (by omega),fun y hy=>ls_l04Sum_0 _ _ _ _ _ _ _ _ ?_⟩
        rw [←hy]
        simp only [List.length_map,lt_true hk,d0_true,Bool.and_self,cond_true,cond_false,Int.toNat_natCast,getD_map' iv 0 hk,e_int,e_toInt,nk,Option.bind_some,d1,rI_len,lt_true e2,rI_get _ e2,sh_int,to_int,hneg,decide_false,w,w2]) l.length 0 (by omega) 0 ⟨fun x hx=>by simp at hx,rfl,by omega⟩
 simp only [Int.natCast_zero] at e1
 rcases e2 with ⟨rfl,e2⟩|⟨s,rfl,e2,e3⟩
 · simp only [e1,Option.bind_some,Sum.elim_inl,e2]
 · have hsl:=sumL_all (nt:=nt) (L:=L) (l:=l) ⟨e2,rfl⟩
   simp only [e1,Option.bind_some,Sum.elim_inr]
   rw [hsl,←e3]
   by_cases g:1000<s
   · rw [decide_eq_true g,cond_true,Int.min_eq_right (by omega)]
   · rw [decide_eq_false g,cond_false,Int.min_eq_left (by omega)]
theorem passL_s (h:RB nt nn ps) (hT:T.length=nt) (L0:Nat→Int) (h0 : ∀i,0≤L0 i→Der nt ps i (L0 i)) (hb : ∀i,-1≤L0 i∧L0 i≤1000) :
 ∃t,Ls_l04Least_2 false 0 T Ns own (ps.map avProd) (rI nn L0)=some t ∧ ∃b L,t=(b,T,Ns,own,ps.map avProd,rI nn L)∧(∀i,0≤L i→Der nt ps i (L i))∧(∀i,-1≤L i∧L i≤1000) ∧
  ((b=true∧sumW nn L<sumW nn L0)∨(b=false∧L=L0 ∧ ∀p∈ps,0≤sumL nt L0 p.2.1→0≤L0 (sy nt p.1)∧L0 (sy nt p.1)≤sumL nt L0 p.2.1)):=by
 have hp120:=h.p120
 have h60:=h.t60
 have hn100:=h.n100
 refine loop_inv (fun i (s:Bool×(Nat→Int))=>Ls_l04Least_2 s.1 (i:Int) T Ns own (ps.map avProd) (rI nn s.2)) ps.length
  (fun i s=>(∀i,0≤s.2 i→Der nt ps i (s.2 i))∧(∀i,-1≤s.2 i∧s.2 i≤1000)∧((s.1=true∧sumW nn s.2<sumW nn L0)∨(s.1=false∧s.2=L0 ∧ ∀j,j<i→0≤sumL nt L0 (ps.getD j pD).2.1→0≤L0 (sy nt (ps.getD j pD).1)∧L0 (sy nt (ps.getD j pD).1)≤sumL nt L0 (ps.getD j pD).2.1)))
  _ (fun s hs=>⟨_,ls_l04Least_2 _ _ _ _ _ _ _ (by simp only [List.length_map,lt_self,cond_false] <;> rfl),s.1,s.2,rfl,hs.1,hs.2.1,hs.2.2.imp id fun ⟨a,b,c⟩=>⟨a,b,fun p hp=>by
    obtain ⟨j,hj,rfl⟩:=List.mem_iff_getElem.1 hp
    have:=c j hj
    simpa [List.getD_eq_getElem?_getD,hj] using this⟩⟩) (fun i hi s hs => ?_) ps.length 0 (by omega) (false,L0) ⟨h0,hb,.inr ⟨rfl,rfl,fun j hj=>by omega⟩⟩
 obtain ⟨b,L⟩:=s
 simp only at hs ⊢
 have hm:ps.getD i pD∈ps:=getD_mem pD hi
 have w:IntKind.wrap .i64 ((i:Int)+1)=((i+1:Nat):Int):=wrap_i (by omega)
 have hgd:=getD_map' avProd pD hi
 generalize hq:ps.getD i pD=p at hm hgd
 have hlf:=h.lf p hm
 have hsl:=h.sy_lt hm
 have e1:p.1-(nt:Int)=((sy nt p.1:Nat):Int):=by unfold sy;omega
 have nl:=non_s (own:=own) (Ns:=Ns) hT h60 (ps.map avProd) (show 0≤p.1 by omega) (by omega)
 rw [e1] at nl
 have sm:=sum_s (own:=own) (Ns:=Ns) hT h60 hn100 (ps.map avProd) L (fun i=>(hs.2.1 i).2) p.2.1 (h.rl p hm) (h.rs p hm)
 have base : ∀y,(bif decide (0≤sumL nt L p.2.1)&&(decide (L (sy nt p.1)<0)||decide (sumL nt L p.2.1<L (sy nt p.1))) then Ls_l04Least_2 true ((i+1:Nat):Int) T Ns own (ps.map avProd) (rI nn (upd L (sy nt p.1) (sumL nt L p.2.1))) else Ls_l04Least_2 b ((i+1:Nat):Int) T Ns own (ps.map avProd) (rI nn L))=some y→Ls_l04Least_2 b (i:Int) T Ns own (ps.map avProd) (rI nn L)=some y:=by
  intro y hy
  refine ls_l04Least_2 _ _ _ _ _ _ _ ?_
  rw [←hy]
  simp only [List.length_map,lt_true hi,d0_true,Bool.and_self,cond_true,Int.toNat_natCast,hgd,p0_Prod,c0_Prod,p1_Prod,c1_Prod,rI_ro,sm,nl,Option.bind_some,rI_len,lt_true hsl,blt_true hsl,rI_get _ hsl,sh_int,to_int,ag_int,Bool.not_false,rI_set,w]
  by_cases n0:0≤sumL nt L p.2.1
  · by_cases g1:L (sy nt p.1)<0
    · simp only [n0,g1,decide_true,Bool.true_or,Bool.and_self,cond_true]
    · by_cases g2:sumL nt L p.2.1<L (sy nt p.1) <;> simp only [n0,g1,g2,decide_true,decide_false,Bool.false_or,Bool.and_self,Bool.true_and,cond_true,cond_false]
  · simp only [n0,decide_false,Bool.false_and,cond_false]
 have hsb:=sumL_le (nt:=nt) L p.2.1
 cases hc:(decide (0≤sumL nt L p.2.1)&&(decide (L (sy nt p.1)<0)||decide (sumL nt L p.2.1<L (sy nt p.1)))) with
 | true=>
   have hc2:=hc
   simp only [Bool.and_eq_true,Bool.or_eq_true,decide_eq_true_eq] at hc2
   have hsum:=sumW_upd (L:=L) (v:=sumL nt L p.2.1) nn hsl
   have hLb:=hs.2.1 (sy nt p.1)
   have hw:wL (sumL nt L p.2.1)<wL (L (sy nt p.1)):=by
    unfold wL
    rw [if_neg (by omega)]
    split <;> omega
   refine ⟨(true,upd L (sy nt p.1) (sumL nt L p.2.1)),⟨der_add hs.1 hm hc2.1,fun i => ?_,.inl ⟨rfl,?_⟩⟩,fun y hy=>base y (by rw [hc];exact hy)⟩
   · simp only;unfold upd;split
     · omega
     · exact hs.2.1 i
   · simp only
     rcases hs.2.2 with ⟨_,q⟩|⟨_,q,_⟩
     · omega
     · subst q;omega
 | false=>
   refine ⟨(b,L),⟨hs.1,hs.2.1,hs.2.2.imp id fun ⟨a1,a2,a3⟩=>⟨a1,a2,fun j hj hsj => ?_⟩⟩,fun y hy=>base y (by rw [hc];exact hy)⟩
   by_cases hji:j=i
   · subst hji
     rw [hq,←a2] at hsj ⊢
     rw [decide_eq_true hsj,Bool.true_and,Bool.or_eq_false_iff,decide_eq_false_iff_not,decide_eq_false_iff_not] at hc
     omega
   · exact a3 j (by omega) hsj
theorem least_s (h:RB nt nn ps) (hT:T.length=nt) (hN:Ns.length=nn) : ∃L,Fs_l04Least T Ns own (ps.map avProd)=some (rI nn L)∧LeastOK nt ps L:=by
 have hn100:=h.n100
 obtain ⟨t,h1,L,rfl,h2⟩:=loop_meas (fun (s:Bool×(Nat→Int))=>Ls_l04Least_1 s.1 T Ns own (ps.map avProd) (rI nn s.2)) (fun s=>((∀i,0≤s.2 i→Der nt ps i (s.2 i))∧(∀i,-1≤s.2 i∧s.2 i≤1000))∧(s.1=false→LeastOK nt ps s.2))
  (fun t => ∃L,t=rI nn L∧LeastOK nt ps L) (fun s=>2*sumW nn s.2+if s.1 then 1 else 0) (fun s hs=>by
    obtain ⟨b,L⟩:=s
    cases b with
    | false=>exact .inl ⟨_,ls_l04Least_1 _ _ _ _ _ _ rfl,L,rfl,hs.2 rfl⟩
    | true=>
      obtain ⟨_,k1,b,L',rfl,k2,k3,k4⟩:=passL_s (own:=own) (Ns:=Ns) h hT L hs.1.1 hs.1.2
      refine .inr ⟨(b,L'),⟨⟨k2,k3⟩,fun hb => ?_⟩,?_,fun y hy=>ls_l04Least_1 _ _ _ _ _ _ (by simp only [cond_true,k1,Option.bind_some];exact hy)⟩
      · rcases k4 with ⟨k,_⟩|⟨_,k,k5⟩
        · simp only at hb;rw [k] at hb;cases hb
        · exact ⟨k2,fun i=>(k3 i).1,by simp only;rw [k];exact k5⟩
      · rcases k4 with ⟨k,k5⟩|⟨k,k5,_⟩
        · subst k;simp only [if_true];omega
        · subst k;subst k5;simp) _ (true,fun _ => -1) (Nat.lt_succ_self _) ⟨⟨fun i hi=>by simp at hi,fun i=>by simp⟩,fun hb=>by simp at hb⟩
 refine ⟨L,us_l04Least _ _ _ _ ?_,h2⟩
 have h3:=loop_inv (fun i (_:Unit)=>Ls_l04Least_0 (i:Int) T Ns own (ps.map avProd) (rI nn fun j=>if j<i then -1 else 0)) nn (fun _ _=>True)
  (fun t=>t=(T,Ns,own,ps.map avProd,rI nn fun _ => -1)) (fun s _=>⟨_,ls_l04Least_0 _ _ _ _ _ _ (by simp only [rI_len,lt_self,cond_false] <;> rfl),by
    have:(rI nn fun j=>if j<nn then -1 else 0)=rI nn fun _ => -1:=tbl_congr fun i hi=>by simp only [if_pos hi]
    rw [this]⟩) (fun i hi s _=>⟨(),trivial,fun y hy=>ls_l04Least_0 _ _ _ _ _ _ (by
    have w:IntKind.wrap .i64 ((i:Int)+1)=((i+1:Nat):Int):=wrap_i (by omega)
    have e1:(rI nn fun j=>if j<i then -1 else 0).set i (.int .i64 (-1))=rI nn fun j=>if j<i+1 then -1 else 0:=by
     rw [rI_set]
     refine tbl_congr fun j hj => ?_
     unfold upd
     by_cases hji:j=i
     · rw [if_pos hji]
       dsimp only
       rw [if_pos (by omega)]
     · rw [if_neg hji]
       dsimp only
       by_cases hj2:j<i
       · rw [if_pos hj2,if_pos (by omega)]
       · rw [if_neg hj2,if_neg (by omega)]
    rw [←hy]
    simp only [rI_len,lt_true hi,cond_true,d0_true,Bool.and_self,Int.toNat_natCast,blt_true hi,rI_get _ hi,ag_int,Bool.not_false,e1,w])⟩) nn 0 (by omega) () trivial
 obtain ⟨_,h4,rfl⟩:=h3
 have e0:(rI nn fun j=>if j<0 then (-1:Int) else 0)=List.replicate nn (.int .i64 0):=by
  rw [tbl_rep]
  exact tbl_congr fun i _=>by dsimp only;rw [if_neg (by omega)]
 simp only [Int.natCast_zero,e0] at h4
 have c2:capB nn 8=true:=capB_le (by omega)
 have le:decide ((nn:Int)≤(nn:Int))=true:=by simp
 simp only at h1
 simp only [hN,d0_true,le,Int.toNat_natCast,c2,Bool.and_self,cond_true,h4,Option.bind_some,h1,rI_ro]
theorem lex_at : ∀(a b:List Int) (k:Nat),a.length=b.length→(∀j,j<k→a.getD j 0=b.getD j 0)→k<a.length→a.getD k 0≠b.getD k 0→lexLt a b=decide (a.getD k 0<b.getD k 0)
 | [],b,k,_,_,h,_=>by simp at h
 | _::_,[],k,h,_,_,_=>by simp at h
 | x::a,y::b,0,_,_,_,hne=>by
   simp only [List.getD_cons_zero] at hne ⊢
   simp only [lexLt,if_neg hne]
 | x::a,y::b,k+1,hl,he,hk,hne=>by
   have h0:=he 0 (by omega)
   simp only [List.getD_cons_zero] at h0
   simp only [List.getD_cons_succ] at hne ⊢
   simp only [lexLt,if_pos h0]
   exact lex_at a b k (by simpa using hl) (fun j hj=>by have:=he (j+1) (by omega);simpa only [List.getD_cons_succ] using this) (by simpa using hk) hne
theorem lex_eq : ∀(a b:List Int),a.length=b.length→(∀j,j<a.length→a.getD j 0=b.getD j 0)→lexLt a b=false
 | [],b,_,_=>by cases b <;> rfl
 | _::_,[],h,_=>by simp at h
 | x::a,y::b,hl,he=>by
   have h0:=he 0 (by simp)
   simp only [List.getD_cons_zero] at h0
   simp only [lexLt,if_pos h0]
   exact lex_eq a b (by simpa using hl) fun j hj=>by have:=he (j+1) (by simpa using hj);simpa only [List.getD_cons_succ] using this
theorem cmp_s {a b:List Int} (hl:a.length=b.length) (h100:a.length≤100000) (ha:dig nt a) (hb:dig nt b) (h60:nt≤60) : ∃r,Fs_l04Cmp (a.map iv) (b.map iv)=some r∧(decide (r<0)=lexLt a b):=by
 obtain ⟨t,e1,e2⟩:=loop_ex (fun k (_:Unit)=>Ls_l04Cmp_0 (a.map iv) (b.map iv) (k:Int)) a.length (fun k _ => ∀j,j<k→a.getD j 0=b.getD j 0)
  (fun t=>(∃r,t=.inl r∧decide (r<0)=lexLt a b)∨(t=.inr ()∧lexLt a b=false)) (fun s hs=>⟨_,ls_l04Cmp_0 _ _ _ (by simp only [List.length_map,lt_self,cond_false] <;> rfl),.inr ⟨rfl,lex_eq a b hl hs⟩⟩) (fun k hk s hs=>by
    have hk2:k<b.length:=by omega
    have w:IntKind.wrap .i64 ((k:Int)+1)=((k+1:Nat):Int):=wrap_i (by omega)
    have xa:=ha _ (getD_in hk)
    have xb:=hb _ (getD_in hk2)
    by_cases e:a.getD k 0=b.getD k 0
    · refine .inr ⟨(),fun j hj => ?_,fun y hy=>ls_l04Cmp_0 _ _ _ ?_⟩
      · by_cases hjk:j=k
        · rw [hjk];exact e
        · exact hs j (by omega)
      · rw [←hy]
        simp only [List.length_map,lt_true hk,lt_true hk2,d0_true,Bool.and_self,cond_true,Int.toNat_natCast,getD_map' iv 0 hk,getD_map' iv 0 hk2,e_int,e_toInt,e,decide_true,Bool.not_true,cond_false,w]
    · have w2:IntKind.wrap .i64 (a.getD k 0-b.getD k 0)=a.getD k 0-b.getD k 0:=wrap64 (by omega) (by omega)
      refine .inl ⟨_,ls_l04Cmp_0 _ _ _ (by simp only [List.length_map,lt_true hk,lt_true hk2,d0_true,Bool.and_self,cond_true,Int.toNat_natCast,getD_map' iv 0 hk,getD_map' iv 0 hk2,e_int,e_toInt,e,decide_false,Bool.not_false,w2] <;> rfl),.inl ⟨_,rfl,?_⟩⟩
      rw [lex_at a b k hl hs hk e,decide_eq_decide]
      omega) a.length 0 (by omega) () (fun j hj=>by omega)
 simp only [Int.natCast_zero] at e1
 have hl2:decide ((a.length:Int)=(b.length:Int))=true:=decide_eq_true (by omega)
 rcases e2 with ⟨r,rfl,e2⟩|⟨rfl,e2⟩
 · exact ⟨r,us_l04Cmp _ _ (by simp only [List.length_map,hl2,Bool.not_true,cond_false,e1,Option.bind_some,Sum.elim_inl]),e2⟩
 · exact ⟨0,us_l04Cmp _ _ (by simp only [List.length_map,hl2,Bool.not_true,cond_false,e1,Option.bind_some,Sum.elim_inr]),by rw [e2];rfl⟩
theorem nan_i (x:Int):Fcmp_isNaN_int x=some false:=ucmp_isNaN_int _ (by simp)
theorem cmp1_i (x y:Int):Fcmp_Compare_int x y=some (if x<y then -1 else if y<x then 1 else 0):=by
 refine ucmp_Compare_int _ _ ?_
 simp only [nan_i,Option.bind_some,cond_false]
 by_cases h1:x<y
 · simp only [h1,decide_true,cond_true,if_true]
 · by_cases h2:y<x <;> simp only [h1,h2,decide_true,decide_false,cond_true,cond_false,if_true,if_false]
theorem cmp_i {a b:List Int} (hl:a.length=b.length) (h100:a.length≤100000) : ∃r,Fslices_Compare_int_int (a.map iv) (b.map iv)=some r∧(decide (r<0)=lexLt a b):=by
 obtain ⟨t,e1,e2⟩:=loop_ex (fun k (_:Unit)=>Lslices_Compare_int_int_0 (a.map iv) (b.map iv) (a.map iv) (a.length:Int) (k:Int)) a.length (fun k _ => ∀j,j<k→a.getD j 0=b.getD j 0)
  (fun t=>(∃r,t=.inl r∧decide (r<0)=lexLt a b)∨(t=.inr (a.map iv,b.map iv)∧lexLt a b=false)) (fun s hs=>⟨_,lslices_Compare_int_int_0 _ _ _ _ _ (by simp only [lt_self,cond_false] <;> rfl),.inr ⟨rfl,lex_eq a b hl hs⟩⟩) (fun k hk s hs=>by
    have hk2:k<b.length:=by omega
    have w:IntKind.wrap .i64 ((k:Int)+1)=((k+1:Nat):Int):=wrap_i (by omega)
    have nle:decide ((b.length:Int)≤(k:Int))=false:=decide_eq_false (by omega)
    by_cases e:a.getD k 0=b.getD k 0
    · have c0:(if b.getD k 0<b.getD k 0 then (-1:Int) else if b.getD k 0<b.getD k 0 then 1 else 0)=0:=by rw [if_neg (by omega),if_neg (by omega)]
      refine .inr ⟨(),fun j hj => ?_,fun y hy=>lslices_Compare_int_int_0 _ _ _ _ _ ?_⟩
      · by_cases hjk:j=k
        · rw [hjk];exact e
        · exact hs j (by omega)
      · rw [←hy]
        simp only [List.length_map,lt_true hk,lt_true hk2,d0_true,Bool.and_self,cond_true,Int.toNat_natCast,getD_map' iv 0 hk,getD_map' iv 0 hk2,e_int,e_toInt,nle,cond_false,cmp1_i,Option.bind_some,e,c0,decide_true,Bool.not_true,w]
    · have hne : ¬(if a.getD k 0<b.getD k 0 then (-1:Int) else if b.getD k 0<a.getD k 0 then 1 else 0)=0:=by
       split
       · omega
       · split <;> omega
      refine .inl ⟨_,lslices_Compare_int_int_0 _ _ _ _ _ (by simp only [List.length_map,lt_true hk,lt_true hk2,d0_true,Bool.and_self,cond_true,Int.toNat_natCast,getD_map' iv 0 hk,getD_map' iv 0 hk2,e_int,e_toInt,nle,cond_false,cmp1_i,Option.bind_some,hne,decide_false,Bool.not_false] <;> rfl),.inl ⟨_,rfl,?_⟩⟩
      rw [lex_at a b k hl hs hk e,decide_eq_decide]
      split
      · omega
      · split <;> omega) a.length 0 (by omega) () (fun j hj=>by omega)
 simp only [Int.natCast_zero] at e1
 have hl2:decide ((a.length:Int)<(b.length:Int))=false:=decide_eq_false (by omega)
 rcases e2 with ⟨r,rfl,e2⟩|⟨rfl,e2⟩
 · exact ⟨r,uslices_Compare_int_int _ _ (by simp only [List.length_map,e1,Option.bind_some,Sum.elim_inl]),e2⟩
 · exact ⟨0,uslices_Compare_int_int _ _ (by simp only [List.length_map,e1,Option.bind_some,Sum.elim_inr,hl2,cond_false]),by rw [e2];rfl⟩
end
end Go.Proofs.Ytgoaegbddpmiiaa
