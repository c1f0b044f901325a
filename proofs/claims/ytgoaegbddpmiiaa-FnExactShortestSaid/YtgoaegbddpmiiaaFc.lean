/- Facts of plain rules: what the program works out; no condition. -/
import Derived.Test.YtgoaegbddpmiiaaFz
import Derived.Test.YtgoaegbddpmiiaaFf
namespace Go.Proofs.Ytgoaegbddpmiiaa
open Go.VK AVal
def fV (T Ns:List AVal) (own:Int) (P:List AVal) (nt nn:Nat) (a b c d e:List AVal):AVal:=
 .agg [.ro false 3 T,.ro false 1 Ns,.int .i64 own,.ro false 5 P,.int .i64 (nt:Int),.int .i64 (nn:Int),.ro false 1 a,.ro false 1 b,.ro false 1 c,.ro false 1 d,.ro false 1 e]
section
variable {nt nn:Nat} {ps:List ProdD} {T Ns P:List AVal} {own:Int} {a b c d e:List AVal}
theorem fV3:(fV T Ns own P nt nn a b c d e).cell 3=.ro false 5 P:=rfl
theorem fV4:(fV T Ns own P nt nn a b c d e).cell 4=.int .i64 (nt:Int):=rfl
theorem fV6:(fV T Ns own P nt nn a b c d e).cell 6=.ro false 1 a:=rfl
theorem fV8:(fV T Ns own P nt nn a b c d e).cell 8=.ro false 1 c:=rfl
theorem fV9:(fV T Ns own P nt nn a b c d e).cell 9=.ro false 1 d:=rfl
theorem fV10:(fV T Ns own P nt nn a b c d e).cell 10=.ro false 1 e:=rfl
theorem sy_eq {s:Int} (h:(nt:Int)≤s) (h60:nt≤60) (hs:s≤1000000):IntKind.wrap .i64 (s-(nt:Int))=((sy nt s:Nat):Int):=by
 rw [wrap64 (by omega) (by omega)];unfold sy;omega
theorem len_i (h60:nt≤60) (hn:nn≤100) (L:Nat→Int) {s:Int} (h0:0≤s) (h1:s<(nt:Int)+nn):Fi_facts_length (fV T Ns own P nt nn a b (rI nn L) d e) s=some (if s<(nt:Int) then 1 else L (sy nt s)):=by
 refine ui_facts_length _ _ ?_
 simp only [fV4,fV8,sh_int,to_int,cond_true]
 by_cases h:s<(nt:Int)
 · simp only [h,decide_true,cond_true,if_true]
 · have e1:=sy_eq (nt:=nt) (s:=s) (by omega) h60 (by omega)
   have e2:sy nt s<nn:=by unfold sy;omega
   simp only [h,decide_false,cond_false,if_false,sh_ro,el_ro,cond_true,e1,rI_len,d0_true,lt_true e2,Bool.and_self,Int.toNat_natCast,rI_get L e2,sh_int,to_int]
def wL (x:Int):Nat:=if x<0 then 1001 else x.toNat
def sumW (n:Nat) (L:Nat→Int):Nat:=((List.range n).map fun i=>wL (L i)).sum
theorem sumW_upd {L:Nat→Int} {i:Nat} {v:Int} : ∀n,i<n→sumW n (upd L i v)+wL (L i)=sumW n L+wL v
 | 0,h=>by omega
 | n+1,h=>by
   unfold sumW
   simp only [List.range_succ,List.map_append,List.sum_append,List.map_cons,List.map_nil,List.sum_cons,List.sum_nil,Nat.add_zero]
   by_cases hn:i=n
   · subst hn
     have e:((List.range i).map fun j=>wL (upd L i v j))=(List.range i).map fun j=>wL (L j):=List.map_congr_left fun j hj=>by
      have:j<i:=List.mem_range.1 hj
      rw [upd_ne _ _ (by omega)]
     rw [e,upd_at];omega
   · have ih:=sumW_upd (L:=L) (v:=v) n (show i<n by omega)
     unfold sumW at ih
     rw [upd_ne _ _ (show n≠i by omega)]
     omega
theorem nu_take {f:Nat→Bool} {l:List Int} {k:Nat} (hk:k<l.length):nuB nt f (l.take (k+1))=(nuB nt f (l.take k)&&(decide ((nt:Int)≤l.getD k 0)&&f (sy nt (l.getD k 0)))):=by
 unfold nuB
 rw [List.take_succ_eq_append_getElem hk,List.all_append]
 simp [List.getD_eq_getElem?_getD,hk]
theorem nu_no {f:Nat→Bool} {l:List Int} {k:Nat} (hk:k<l.length) (h:f (sy nt (l.getD k 0))=false):nuB nt f l=false:=by
 rw [Bool.eq_false_iff]
 intro q
 simp only [nuB,List.all_eq_true,Bool.and_eq_true] at q
 have:=(q _ (getD_in hk)).2
 rw [h] at this;cases this
theorem inner_i (h60:nt≤60) (hn:nn≤100) (f k9:Nat→Bool) (L:Nat→Int) (hL : ∀i,-1≤L i∧L i≤1000) (hfL : ∀i,f i=true→0≤L i) (F B:List AVal) (l:List Int) (hl:l.length≤12) (hs : ∀s∈l,0≤s∧s<(nt:Int)+nn) (nw:Bool) (lf pc px:Int) (X:List AVal) :
 ∃t,Li_factsOf_1_1 nw lf 0 true X pc px (l.map iv) (l.length:Int) 0 T Ns own P T Ns own P (nt:Int) (nn:Int) (rB nn f) (rB nn k9) (rI nn L) F B=some t ∧
  ∃n nl,t=(nw,lf,n,nl,X,pc,px,T,Ns,own,P,T,Ns,own,P,(nt:Int),(nn:Int),rB nn f,rB nn k9,rI nn L,F,B)∧((0≤n∧n≤1000∧nl=nuB nt f l∧sumL nt L l=n)∨(n = -1∧nuB nt f l=false∧sumL nt L l = -1)):=by
 refine loop_ex (fun k (s:Int×Bool)=>Li_factsOf_1_1 nw lf s.1 s.2 X pc px (l.map iv) (l.length:Int) (k:Int) T Ns own P T Ns own P (nt:Int) (nn:Int) (rB nn f) (rB nn k9) (rI nn L) F B) l.length (fun k s=>0≤s.1∧s.1≤1000∧s.2=nuB nt f (l.take k)∧((∀s∈l.take k,0≤lenL nt L s)∧s.1=min (sumI ((l.take k).map (lenL nt L))) 1000))
  _ (fun s hs2=>⟨_,li_factsOf_1_1 _ _ _ _ _ _ _ _ _ _ _ _ _ _ _ _ _ _ _ _ _ _ _ _ _ (by simp only [lt_self,cond_false] <;> rfl),s.1,s.2,rfl,.inl ⟨hs2.1,hs2.2.1,by rw [hs2.2.2.1,List.take_length],sumL_all (by have:=hs2.2.2.2;rw [List.take_length] at this;exact this)⟩⟩) (fun k hk s hs2 => ?_) l.length 0 (by omega) (0,true) ⟨by omega,by omega,rfl,fun s hs=>by simp at hs,rfl⟩
 obtain ⟨n,nl⟩:=s
 simp only at hs2 ⊢
 obtain ⟨n0,n1,hnl,hsum⟩:=hs2
 have hmin : ∀x:Int,(if 1000<x then 1000 else x)=min x 1000:=fun x=>by split <;> omega
 have hm:=hs _ (getD_in hk)
 have w:IntKind.wrap .i64 ((k:Int)+1)=((k+1:Nat):Int):=wrap_i (by omega)
 have el:=len_i (T:=T) (Ns:=Ns) (own:=own) (P:=P) (a:=rB nn f) (b:=rB nn k9) (d:=asRoL F) (e:=asRoL B) h60 hn L hm.1 hm.2
 have hfv:AVal.agg [.ro false 3 T,.ro false 1 Ns,.int .i64 own,.ro false 5 P,.int .i64 (nt:Int),.int .i64 (nn:Int),.ro false 1 (rB nn f),.ro false 1 (rB nn k9),.ro false 1 (rI nn L),.ro false 1 (asRoL F),.ro false 1 (asRoL B)]=fV T Ns own P nt nn (rB nn f) (rB nn k9) (rI nn L) (asRoL F) (asRoL B):=rfl
 have hnt:=nu_take (nt:=nt) (f:=f) hk
 by_cases hv:l.getD k 0<(nt:Int)
 · have hle : ¬(nt:Int)≤l.getD k 0:=by omega
   rw [if_pos hv] at el
   have w2:IntKind.wrap .i64 (n+1)=n+1:=wrap64 (by omega) (by omega)
   have d1:decide ((1:Int)<0)=false:=rfl
   have hln:lenL nt L (l.getD k 0)=1:=by unfold lenL;rw [if_pos hv]
   have hst:=sumL_take (nt:=nt) hk hsum (by omega)
   rw [hln] at hst
   refine .inr ⟨(if 1000<n+1 then 1000 else n+1,false),⟨by dsimp only;split <;> omega,by dsimp only;split <;> omega,by rw [hnt,decide_eq_false hle,Bool.false_and,Bool.and_false],hst.1,by dsimp only;rw [hmin];exact hst.2⟩,fun y hy=>li_factsOf_1_1 _ _ _ _ _ _ _ _ _ _ _ _ _ _ _ _ _ _ _ _ _ _ _ _ _ ?_⟩
   rw [←hy]
   simp only [List.length_map,lt_true hk,d0_true,Bool.and_self,cond_true,cond_false,Int.toNat_natCast,getD_map' iv 0 hk,e_int,e_toInt,rB_ro,rI_ro,hfv,el,Option.bind_some,d1,w2,hle,decide_false,w]
   cases nl <;> rfl
 · have hle:(nt:Int)≤l.getD k 0:=by omega
   have e1:=sy_eq hle h60 (by omega)
   have e2:sy nt (l.getD k 0)<nn:=by unfold sy;omega
   rw [if_neg hv] at el
   have hLk:=hL (sy nt (l.getD k 0))
   by_cases hneg:L (sy nt (l.getD k 0))<0
   · have hff:f (sy nt (l.getD k 0))=false:=by
      cases hf:f (sy nt (l.getD k 0)) with
      | false=>rfl
      | true=>have:=hfL _ hf;omega
     refine .inl ⟨_,li_factsOf_1_1 _ _ _ _ _ _ _ _ _ _ _ _ _ _ _ _ _ _ _ _ _ _ _ _ _ ?_,-1,nl,rfl,.inr ⟨rfl,nu_no hk hff,sumL_no hk (by unfold lenL;rw [if_neg hv];exact hneg)⟩⟩
     simp only [List.length_map,lt_true hk,d0_true,Bool.and_self,cond_true,Int.toNat_natCast,getD_map' iv 0 hk,e_int,e_toInt,rB_ro,rI_ro,hfv,el,Option.bind_some,hneg,decide_true]
   · have w2:IntKind.wrap .i64 (n+L (sy nt (l.getD k 0)))=n+L (sy nt (l.getD k 0)):=wrap64 (by omega) (by omega)
     have hln:lenL nt L (l.getD k 0)=L (sy nt (l.getD k 0)):=by unfold lenL;rw [if_neg hv]
     have hst:=sumL_take (nt:=nt) hk hsum (by omega)
     rw [hln] at hst
     refine .inr ⟨(if 1000<n+L (sy nt (l.getD k 0)) then 1000 else n+L (sy nt (l.getD k 0)),nl&&f (sy nt (l.getD k 0))),⟨by dsimp only;split <;> omega,by dsimp only;split <;> omega,by dsimp only;rw [hnt,hnl,decide_eq_true hle,Bool.true_and],hst.1,by dsimp only;rw [hmin];exact hst.2⟩,fun y hy=>li_factsOf_1_1 _ _ _ _ _ _ _ _ _ _ _ _ _ _ _ _ _ _ _ _ _ _ _ _ _ ?_⟩
     rw [←hy]
     simp only [List.length_map,lt_true hk,d0_true,Bool.and_self,cond_true,cond_false,Int.toNat_natCast,getD_map' iv 0 hk,e_int,e_toInt,rB_ro,rI_ro,hfv,el,Option.bind_some,hneg,decide_false,w2,hle,decide_true,e1,rB_len,lt_true e2,blt_true e2,rB_get f e2,sh_bool,to_bool,w]
     cases nl <;> rfl
structure Inv1 (nt:Nat) (ps:List ProdD) (f:Nat→Bool) (L:Nat→Int):Prop where
 snd : ∀i,f i=true→Nul nt ps i
 bd : ∀i,-1≤L i∧L i≤1000
 pos : ∀i,f i=true→0≤L i
 der : ∀i,0≤L i→Der nt ps i (L i)
abbrev St1:=Bool×(Nat→Bool)×(Nat→Bool)×(Nat→Int)
theorem round_i (h:RB nt nn ps) (F B:List AVal) (f0 k0:Nat→Bool) (L0:Nat→Int) (h0:Inv1 nt ps f0 L0) :
 ∃t,Fi_factsOf_1 T Ns own (ps.map avProd) T Ns own (ps.map avProd) (nt:Int) (nn:Int) (rB nn f0) (rB nn k0) (rI nn L0) F B=some t ∧ ∃b f k L,t=(b,T,Ns,own,ps.map avProd,T,Ns,own,ps.map avProd,(nt:Int),(nn:Int),rB nn f,rB nn k,rI nn L,F,B) ∧
  Inv1 nt ps f L∧((b=true∧offs nn f+sumW nn L<offs nn f0+sumW nn L0)∨(b=false∧f=f0∧L=L0 ∧ ∀p∈ps,(nuB nt f0 p.2.1=true→f0 (sy nt p.1)=true)∧(0≤sumL nt L0 p.2.1→0≤L0 (sy nt p.1)∧L0 (sy nt p.1)≤sumL nt L0 p.2.1))):=by
 have hp120:=h.p120
 have h60:=h.t60
 have hn100:=h.n100
 obtain ⟨t,e1,b,f,k,L,rfl,e2,e3⟩:=loop_inv (fun i (s:St1)=>Li_factsOf_1_0 s.1 (ps.map avProd) (ps.length:Int) (i:Int) T Ns own (ps.map avProd) T Ns own (ps.map avProd) (nt:Int) (nn:Int) (rB nn s.2.1) (rB nn s.2.2.1) (rI nn s.2.2.2) F B) ps.length
  (fun i s=>Inv1 nt ps s.2.1 s.2.2.2∧((s.1=true∧offs nn s.2.1+sumW nn s.2.2.2<offs nn f0+sumW nn L0)∨(s.1=false∧s.2.1=f0∧s.2.2.2=L0 ∧ ∀j,j<i→(nuB nt f0 (ps.getD j pD).2.1=true→f0 (sy nt (ps.getD j pD).1)=true)∧(0≤sumL nt L0 (ps.getD j pD).2.1→0≤L0 (sy nt (ps.getD j pD).1)∧L0 (sy nt (ps.getD j pD).1)≤sumL nt L0 (ps.getD j pD).2.1))))
  (fun t => ∃b f k L,t=(b,T,Ns,own,ps.map avProd,T,Ns,own,ps.map avProd,(nt:Int),(nn:Int),rB nn f,rB nn k,rI nn L,F,B)∧Inv1 nt ps f L∧((b=true∧offs nn f+sumW nn L<offs nn f0+sumW nn L0)∨(b=false∧f=f0∧L=L0 ∧ ∀p∈ps,(nuB nt f0 p.2.1=true→f0 (sy nt p.1)=true)∧(0≤sumL nt L0 p.2.1→0≤L0 (sy nt p.1)∧L0 (sy nt p.1)≤sumL nt L0 p.2.1))))
  (fun s hs=>⟨_,li_factsOf_1_0 _ _ _ _ _ _ _ _ _ _ _ _ _ _ _ _ _ _ _ (by simp only [lt_self,cond_false] <;> rfl),s.1,s.2.1,s.2.2.1,s.2.2.2,rfl,hs.1,hs.2.imp id fun ⟨a,b,b2,c⟩=>⟨a,b,b2,fun p hp=>by
    obtain ⟨j,hj,rfl⟩:=List.mem_iff_getElem.1 hp
    have:=c j hj
    simpa [List.getD_eq_getElem?_getD,hj] using this⟩⟩) (fun i hi s hs=>by
    obtain ⟨nw,f,k,L⟩:=s
    simp only at hs ⊢
    have hm:ps.getD i pD∈ps:=getD_mem pD hi
    have w:IntKind.wrap .i64 ((i:Int)+1)=((i+1:Nat):Int):=wrap_i (by omega)
    have hgd:=getD_map' avProd pD hi
    generalize hq:ps.getD i pD=p at hm hgd
    have hlf:=h.lf p hm
    have hsl:=h.sy_lt hm
    have e1:=sy_eq hlf.1 h60 (by omega)
    obtain ⟨_,k1,n,nl,rfl,k2⟩:=inner_i (T:=T) (Ns:=Ns) (own:=own) (P:=ps.map avProd) h60 hn100 f k L hs.1.bd hs.1.pos F B p.2.1 (h.rl p hm) (h.rs p hm) nw ((sy nt p.1:Nat):Int) (ps.length:Int) (i:Int) (ps.map avProd)
    have keep : ∀y,Li_factsOf_1_0 nw (ps.map avProd) (ps.length:Int) ((i+1:Nat):Int) T Ns own (ps.map avProd) T Ns own (ps.map avProd) (nt:Int) (nn:Int) (rB nn f) (rB nn k) (rI nn L) F B=some y → ¬(0≤n∧(L (sy nt p.1)<0∨n<L (sy nt p.1))) → ¬(0≤n∧nl=true∧f (sy nt p.1)=false) →
     Li_factsOf_1_0 nw (ps.map avProd) (ps.length:Int) (i:Int) T Ns own (ps.map avProd) T Ns own (ps.map avProd) (nt:Int) (nn:Int) (rB nn f) (rB nn k) (rI nn L) F B=some y:=by
     intro y hy hn1 hn2
     refine li_factsOf_1_0 _ _ _ _ _ _ _ _ _ _ _ _ _ _ _ _ _ _ _ ?_
     rw [←hy]
     simp only [List.length_map,lt_true hi,d0_true,Bool.and_self,cond_true,Int.toNat_natCast,hgd,sh_Prod,c0_Prod,c1_Prod,e1,k1,Option.bind_some,w]
     by_cases n0:0≤n
     · have g1 : ¬L (sy nt p.1)<0:=fun q=>hn1 ⟨n0,.inl q⟩
       have g2 : ¬n<L (sy nt p.1):=fun q=>hn1 ⟨n0,.inr q⟩
       simp only [n0,decide_true,cond_true,d0_true,rI_len,rB_len,lt_true hsl,blt_true hsl,Bool.and_self,Int.toNat_natCast,rI_get _ hsl,sh_int,to_int,g1,g2,decide_false,cond_false]
       cases nl with
       | false=>rfl
       | true=>
         cases hf:f (sy nt p.1) with
         | false=>exact absurd ⟨n0,rfl,hf⟩ hn2
         | true=>simp only [cond_true,lt_true hsl,blt_true hsl,rB_get _ hsl,sh_bool,to_bool,hf,Bool.not_true,cond_false,Bool.and_self]
     · simp only [n0,decide_false,cond_false]
    have put : ∀(c1:Bool) (c2:Bool) y,(c1=true↔(0≤n∧(L (sy nt p.1)<0∨n<L (sy nt p.1))))→(c2=true↔(0≤n∧nl=true∧f (sy nt p.1)=false))→(c1||c2)=true →
     Li_factsOf_1_0 true (ps.map avProd) (ps.length:Int) ((i+1:Nat):Int) T Ns own (ps.map avProd) T Ns own (ps.map avProd) (nt:Int) (nn:Int) (rB nn (if c2 then upd f (sy nt p.1) true else f)) (rB nn (if c1 then upd k (sy nt p.1) true else k)) (rI nn (if c1 then upd L (sy nt p.1) n else L)) F B=some y →
     Li_factsOf_1_0 nw (ps.map avProd) (ps.length:Int) (i:Int) T Ns own (ps.map avProd) T Ns own (ps.map avProd) (nt:Int) (nn:Int) (rB nn f) (rB nn k) (rI nn L) F B=some y:=by
     intro c1 c2 y h1 h2 h12 hy
     refine li_factsOf_1_0 _ _ _ _ _ _ _ _ _ _ _ _ _ _ _ _ _ _ _ ?_
     rw [←hy]
     have n0:0≤n:=by
      cases hc1:c1 with
      | true=>exact (h1.1 hc1).1
      | false=>
        cases hc2:c2 with
        | true=>exact (h2.1 hc2).1
        | false=>rw [hc1,hc2] at h12;cases h12
     simp only [List.length_map,lt_true hi,d0_true,Bool.and_self,cond_true,Int.toNat_natCast,hgd,sh_Prod,c0_Prod,c1_Prod,e1,k1,Option.bind_some,w,n0,decide_true,rI_len,rB_len,lt_true hsl,blt_true hsl,rI_get _ hsl,rB_get _ hsl,sh_int,to_int,sh_bool,to_bool,ag_int,ag_bool,Bool.not_false,rI_set,rB_set,Bnd]
     have q2:c2=(nl && !f (sy nt p.1)):=by
      rw [Bool.eq_iff_iff,h2]
      simp only [Bool.and_eq_true,Bool.not_eq_true',n0,true_and]
     by_cases g1:L (sy nt p.1)<0
     · have q1:c1=true:=h1.2 ⟨n0,.inl g1⟩
       subst q1;subst q2
       simp only [g1,decide_true,cond_true,if_true]
       cases nl <;> cases hf:f (sy nt p.1) <;> rfl
     · by_cases g2:n<L (sy nt p.1)
       · have q1:c1=true:=h1.2 ⟨n0,.inr g2⟩
         subst q1;subst q2
         simp only [g1,g2,decide_true,decide_false,cond_true,cond_false,if_true]
         cases nl <;> cases hf:f (sy nt p.1) <;> rfl
       · have q1:c1=false:=by
          cases c1 with
          | false=>rfl
          | true=>have:=(h1.1 rfl).2;omega
         subst q1;subst q2
         simp only [g1,g2,decide_false,cond_false]
         cases nl <;> cases hf:f (sy nt p.1) <;> first|rfl|(rw [hf] at h12;simp at h12)|simp at h12
    by_cases hc1:0≤n∧(L (sy nt p.1)<0∨n<L (sy nt p.1))
    · have hn1000:n≤1000:=by rcases k2 with k2|k2 <;> omega
      have hLb:=hs.1.bd (sy nt p.1)
      have hsum:=sumW_upd (L:=L) (v:=n) nn hsl
      have hw:wL n<wL (L (sy nt p.1)):=by
       unfold wL
       rw [if_neg (by omega)]
       split <;> omega
      have hbd : ∀i,-1≤upd L (sy nt p.1) n i∧upd L (sy nt p.1) n i≤1000:=fun i=>by
       unfold upd;split
       · omega
       · exact hs.1.bd i
      have hsn:sumL nt L p.2.1=n:=by rcases k2 with k2|k2 <;> omega
      have hder : ∀i,0≤upd L (sy nt p.1) n i→Der nt ps i (upd L (sy nt p.1) n i):=by
       have:=der_add hs.1.der hm (by rw [hsn];exact hc1.1)
       rw [hsn] at this;exact this
      by_cases hc2:0≤n∧nl=true∧f (sy nt p.1)=false
      · have ho:=offs_upd hc2.2.2 nn hsl
        have hnu:nuB nt f p.2.1=true:=by
         rcases k2 with ⟨_,_,k2,_⟩|⟨k2,_⟩
         · rw [←k2];exact hc2.2.1
         · omega
        refine ⟨(true,upd f (sy nt p.1) true,upd k (sy nt p.1) true,upd L (sy nt p.1) n),⟨⟨nul_add hs.1.snd hm hnu,hbd,fun i hi => ?_,hder⟩,.inl ⟨rfl,?_⟩⟩,fun y hy=>put true true y ⟨fun _=>hc1,fun _=>rfl⟩ ⟨fun _=>hc2,fun _=>rfl⟩ rfl hy⟩
        · simp only at hi ⊢
          by_cases hil:i=sy nt p.1
          · rw [hil,upd_at];omega
          · rw [upd_ne _ _ hil] at hi ⊢;exact hs.1.pos i hi
        · simp only
          rcases hs.2 with ⟨_,q⟩|⟨_,q1,q2,_⟩
          · omega
          · subst q1;subst q2;omega
      · refine ⟨(true,f,upd k (sy nt p.1) true,upd L (sy nt p.1) n),⟨⟨hs.1.snd,hbd,fun i hi => ?_,hder⟩,.inl ⟨rfl,?_⟩⟩,fun y hy=>put true false y ⟨fun _=>hc1,fun _=>rfl⟩ ⟨fun q=>(by cases q),fun q=>absurd q hc2⟩ rfl hy⟩
        · simp only at hi ⊢
          unfold upd;split
          · omega
          · exact hs.1.pos i hi
        · simp only
          rcases hs.2 with ⟨_,q⟩|⟨_,q1,q2,_⟩
          · omega
          · subst q1;subst q2;omega
    · by_cases hc2:0≤n∧nl=true∧f (sy nt p.1)=false
      · have ho:=offs_upd hc2.2.2 nn hsl
        have hnu:nuB nt f p.2.1=true:=by
         rcases k2 with ⟨_,_,k2,_⟩|⟨k2,_⟩
         · rw [←k2];exact hc2.2.1
         · omega
        refine ⟨(true,upd f (sy nt p.1) true,k,L),⟨⟨nul_add hs.1.snd hm hnu,hs.1.bd,fun i hi => ?_,hs.1.der⟩,.inl ⟨rfl,?_⟩⟩,fun y hy=>put false true y ⟨fun q=>(by cases q),fun q=>absurd q hc1⟩ ⟨fun _=>hc2,fun _=>rfl⟩ rfl hy⟩
        · simp only at hi ⊢
          by_cases hil:i=sy nt p.1
          · rw [hil];omega
          · rw [upd_ne _ _ hil] at hi;exact hs.1.pos i hi
        · simp only
          rcases hs.2 with ⟨_,q⟩|⟨_,q1,q2,_⟩
          · omega
          · subst q1;subst q2;omega
      · refine ⟨(nw,f,k,L),⟨hs.1,hs.2.imp id fun ⟨a1,a2,a3,a4⟩=>⟨a1,a2,a3,fun j hj => ?_⟩⟩,fun y hy=>keep y hy hc1 hc2⟩
        by_cases hji:j=i
        · subst hji
          rw [hq,←a2,←a3]
          refine ⟨fun hnj => ?_,fun hsj => ?_⟩
          · rcases k2 with ⟨n0,_,k2,_⟩|⟨_,k2,_⟩
            · cases hf:f (sy nt p.1) with
              | true=>rfl
              | false=>exact absurd ⟨n0,by rw [k2];exact hnj,hf⟩ hc2
            · rw [k2] at hnj;cases hnj
          · rcases k2 with ⟨n0,_,_,k2⟩|⟨_,_,k2⟩
            · rw [k2]
              refine ⟨?_,?_⟩
              · rcases Int.lt_or_le (L (sy nt p.1)) 0 with q|q
                · exact absurd ⟨n0,.inl q⟩ hc1
                · exact q
              · rcases Int.lt_or_le n (L (sy nt p.1)) with q|q
                · exact absurd ⟨n0,.inr q⟩ hc1
                · exact q
            · omega
        · exact a4 j (by omega)) ps.length 0 (by omega) (false,f0,k0,L0) ⟨h0,.inr ⟨rfl,rfl,rfl,fun j hj=>by omega⟩⟩
 refine ⟨_,ui_factsOf_1 _ _ _ _ _ _ _ _ _ _ _ _ _ _ _ ?_,b,f,k,L,rfl,e2,e3⟩
 simp only [Int.natCast_zero] at e1
 simp only [List.length_map,e1,Option.bind_some]
theorem nulls_i (h:RB nt nn ps) (F B:List AVal) (k0:Nat→Bool) :
 ∃t,Fi_around T Ns own (ps.map avProd) T Ns own (ps.map avProd) (nt:Int) (nn:Int) (rB nn fun _=>false) (rB nn k0) (rI nn fun _ => -1) F B=some t ∧ ∃f k L,t=(T,Ns,own,ps.map avProd,T,Ns,own,ps.map avProd,(nt:Int),(nn:Int),rB nn f,rB nn k,rI nn L,F,B)∧(∀i,f i=true↔Nul nt ps i)∧LeastOK nt ps L ∧ ∀i,L i≤1000:=by
 obtain ⟨t,e1,f,k,L,rfl,e2⟩:=loop_meas (fun (s:(Nat→Bool)×(Nat→Bool)×(Nat→Int))=>Li_around_0 T Ns own (ps.map avProd) T Ns own (ps.map avProd) (nt:Int) (nn:Int) (rB nn s.1) (rB nn s.2.1) (rI nn s.2.2) F B) (fun s=>Inv1 nt ps s.1 s.2.2)
  (fun t => ∃f k L,t=(T,Ns,own,ps.map avProd,T,Ns,own,ps.map avProd,(nt:Int),(nn:Int),rB nn f,rB nn k,rI nn L,F,B)∧(∀i,f i=true↔Nul nt ps i)∧LeastOK nt ps L ∧ ∀i,L i≤1000) (fun s=>offs nn s.1+sumW nn s.2.2) (fun s hs=>by
    obtain ⟨_,k1,b,f,k,L,rfl,k2,k3⟩:=round_i (T:=T) (Ns:=Ns) (own:=own) h F B s.1 s.2.1 s.2.2 hs
    rcases k3 with ⟨rfl,k3⟩|⟨rfl,k3,k5,k4⟩
    · exact .inr ⟨(f,k,L),k2,k3,fun y hy=>li_around_0 _ _ _ _ _ _ _ _ _ _ _ _ _ _ _ (by simp only [k1,Option.bind_some,cond_true];exact hy)⟩
    · exact .inl ⟨_,li_around_0 _ _ _ _ _ _ _ _ _ _ _ _ _ _ _ (by simp only [k1,Option.bind_some,cond_false] <;> rfl),f,k,L,rfl,nul_iff k2.snd (fun p hp=>by rw [k3];exact (k4 p hp).1),⟨k2.der,fun i=>(k2.bd i).1,fun p hp=>by rw [k5];exact (k4 p hp).2⟩,fun i=>(k2.bd i).2⟩) _ ((fun _=>false),k0,fun _ => -1) (Nat.lt_succ_self _) ⟨fun i hi=>by simp at hi,fun i=>by simp,fun i hi=>by simp at hi,fun i hi=>by simp at hi⟩
 refine ⟨_,ui_around _ _ _ _ _ _ _ _ _ _ _ _ _ _ _ ?_,f,k,L,rfl,e2⟩
 simp only [e1,Option.bind_some]
end
end Go.Proofs.Ytgoaegbddpmiiaa
