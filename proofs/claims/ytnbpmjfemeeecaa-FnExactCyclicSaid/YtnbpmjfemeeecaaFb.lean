/- Cyclic: what the reference computes; no condition. -/
import Derived.Test.YtnbpmjfemeeecaaFa
namespace Go.Proofs.Ytnbpmjfemeeecaa
open Go.VK AVal
theorem loop_ex {S T:Type} (L:Nat→S→Option T) (n:Nat) (Inv:Nat→S→Prop) (Q:T→Prop) (hend : ∀s,Inv n s → ∃t,L n s=some t∧Q t)
 (hstep : ∀i,i<n → ∀s,Inv i s→(∃t,L i s=some t∧Q t) ∨ ∃s',Inv (i+1) s' ∧ ∀y,L (i+1) s'=some y→L i s=some y) :
 ∀m i,i+m=n → ∀s,Inv i s → ∃t,L i s=some t∧Q t
 | 0,i,h,s,hs=>by
   obtain rfl:i=n:=by omega
   exact hend s hs
 | m+1,i,h,s,hs=>by
   rcases hstep i (by omega) s hs with h1|⟨s',h1,h2⟩
   · exact h1
   · obtain ⟨t,h3,h4⟩:=loop_ex L n Inv Q hend hstep m (i+1) (by omega) s' h1
     exact ⟨t,h2 t h3,h4⟩
theorem allN_all (q:Int→Bool) (l:List Int):allN (fun i=>q (l.getD i 0)) l.length=l.all q:=by
 rw [Bool.eq_iff_iff,allN_iff,List.all_eq_true]
 refine ⟨fun h s hs => ?_,fun h i hi=>h _ (getD_in hi)⟩
 obtain ⟨i,hi,rfl⟩:=List.mem_iff_getElem.1 hs
 have:=h i hi
 simpa [List.getD_eq_getElem?_getD,hi] using this
theorem take_map_iv (l:List Int) (k:Nat):((l.map iv).take k).drop 0=(l.take k).map iv:=by simp
theorem drop_map_iv (l:List Int) (k:Nat):((l.map iv).take (l.map iv).length).drop k=(l.drop k).map iv:=by rw [List.take_length,List.map_drop]
section
variable {nt nn:Nat} {ps:List ProdD} {T Ns:List AVal} {own:Int}
theorem non_s (hT:T.length=nt) (ht:nt≤60) (P:List AVal) {s:Int} (h0:0≤s) (h1:s≤1000000):Fs_l04Non T Ns own P s=some (s-nt):=by
 refine us_l04Non _ _ _ _ _ ?_
 rw [hT,wrap64 (by omega) (by omega)]
theorem alln_s (hT:T.length=nt) (ht:nt≤60) (hn:nn≤100) (P:List AVal) (f:Nat→Bool) (l:List Int) (hl:l.length≤12) (hs : ∀s∈l,0≤s∧s<(nt:Int)+nn):Fs_l04AllNull T Ns own P (rB nn f) (l.map iv)=some (nuB nt f l):=by
 refine us_l04AllNull _ _ _ _ _ _ ?_
 have e:=loop_all (fun i=>Ls_l04AllNull_0 (rB nn f) (l.map iv) (i:Int) T Ns own P) l.length (fun i=>decide ((nt:Int)≤l.getD i 0)&&f (sy nt (l.getD i 0))) () (by
  refine ls_l04AllNull_0 _ _ _ _ _ _ _ ?_
  simp only [List.length_map,lt_self,cond_false]) (fun i hi y hy=>by
  refine ls_l04AllNull_0 _ _ _ _ _ _ _ ?_
  have hm:=hs _ (getD_in hi)
  rw [←hy]
  simp only [List.length_map,lt_true hi,d0_true,Bool.and_self,cond_true,Int.toNat_natCast,getD_map' iv 0 hi,e_int,e_toInt,non_s hT ht P hm.1 (by omega),Option.bind_some,wrap_i (show i<9000000000000000000 by omega)]
  by_cases hv:(nt:Int)≤l.getD i 0
  · have e1:l.getD i 0-(nt:Int)=((sy nt (l.getD i 0):Nat):Int):=by unfold sy;omega
    have e2:sy nt (l.getD i 0)<nn:=by omega
    have e3:decide (((sy nt (l.getD i 0):Nat):Int)<0)=false:=decide_eq_false (by omega)
    rw [e1]
    simp only [e3,cond_false,hv,decide_true,Bool.true_and,d0_true,rB_len,lt_true e2,cond_true,Int.toNat_natCast,rB_get f e2,sh_bool,to_bool]
    cases f (sy nt (l.getD i 0)) <;> rfl
  · have e3:decide (l.getD i 0-(nt:Int)<0)=true:=decide_eq_true (by omega)
    simp only [e3,cond_true,hv,decide_false,Bool.false_and,cond_false])
 have e2:allN (fun i=>decide ((nt:Int)≤l.getD i 0)&&f (sy nt (l.getD i 0))) l.length=nuB nt f l:=allN_all (fun s=>decide ((nt:Int)≤s)&&f (sy nt s)) l
 simp only [Int.natCast_zero] at e
 rw [e,e2]
 cases nuB nt f l <;> rfl
theorem pass_s (h:RB nt nn ps) (hT:T.length=nt) (f0:Nat→Bool) (hf0 : ∀i,f0 i=true→Nul nt ps i) :
 ∃t,Ls_l04Null_1 false 0 T Ns own (ps.map avProd) (rB nn f0)=some t ∧ ∃b f,t=(b,T,Ns,own,ps.map avProd,rB nn f)∧(∀i,f i=true→Nul nt ps i) ∧
  ((b=true∧offs nn f<offs nn f0)∨(b=false∧f=f0 ∧ ∀p∈ps,nuB nt f0 p.2.1=true→f0 (sy nt p.1)=true)):=by
 have hp120:=h.p120
 refine loop_inv (fun i (s:Bool×(Nat→Bool))=>Ls_l04Null_1 s.1 (i:Int) T Ns own (ps.map avProd) (rB nn s.2)) ps.length
  (fun i s=>(∀j,s.2 j=true→Nul nt ps j)∧((s.1=true∧offs nn s.2<offs nn f0)∨(s.1=false∧s.2=f0 ∧ ∀j,j<i→nuB nt f0 (ps.getD j pD).2.1=true→f0 (sy nt (ps.getD j pD).1)=true)))
  _ (fun s hs => ?_) (fun i hi s hs => ?_) ps.length 0 (by omega) (false,f0) ⟨hf0,.inr ⟨rfl,rfl,fun j hj=>by omega⟩⟩
 · refine ⟨_,ls_l04Null_1 _ _ _ _ _ _ _ (by simp only [List.length_map,lt_self,cond_false] <;> rfl),s.1,s.2,rfl,hs.1,hs.2.imp id fun ⟨a,b,c⟩=>⟨a,b,fun p hp => ?_⟩⟩
   obtain ⟨j,hj,rfl⟩:=List.mem_iff_getElem.1 hp
   have:=c j hj
   simpa [List.getD_eq_getElem?_getD,hj] using this
 · obtain ⟨b,f⟩:=s
   simp only at hs ⊢
   have hm:ps.getD i pD∈ps:=getD_mem pD hi
   have hw:IntKind.wrap .i64 ((i:Int)+1)=((i+1:Nat):Int):=wrap_i (by omega)
   have hgd:=getD_map' avProd pD hi
   generalize hq:ps.getD i pD=p at hm hgd
   have hlf:=h.lf p hm
   have hsl:=h.sy_lt hm
   have e1:p.1-(nt:Int)=((sy nt p.1:Nat):Int):=by unfold sy;omega
   have ea:=alln_s (own:=own) (Ns:=Ns) hT h.t60 h.n100 (ps.map avProd) f p.2.1 (h.rl p hm) (h.rs p hm)
   have hn100:=h.n100
   have ht60:=h.t60
   have base : ∀y,(bif !f (sy nt p.1) then (bif nuB nt f p.2.1 then Ls_l04Null_1 true ((i+1:Nat):Int) T Ns own (ps.map avProd) (rB nn (upd f (sy nt p.1) true)) else Ls_l04Null_1 b ((i+1:Nat):Int) T Ns own (ps.map avProd) (rB nn f)) else Ls_l04Null_1 b ((i+1:Nat):Int) T Ns own (ps.map avProd) (rB nn f))=some y→Ls_l04Null_1 b (i:Int) T Ns own (ps.map avProd) (rB nn f)=some y:=by
    intro y hy
    refine ls_l04Null_1 _ _ _ _ _ _ _ ?_
    rw [←hy]
    simp only [List.length_map,lt_true hi,d0_true,Bool.and_self,cond_true,Int.toNat_natCast,hgd,p0_Prod,c0_Prod,p1_Prod,c1_Prod,non_s hT ht60 (ps.map avProd) (show 0≤p.1 by omega) (by omega),e1,Option.bind_some,rB_len,lt_true hsl,blt_true hsl,rB_get f hsl,sh_bool,to_bool,rB_ro,ea,ag_bool,Bool.not_false,rB_set,hw]
   cases hf:f (sy nt p.1) with
   | true=>
     refine ⟨(b,f),⟨hs.1,hs.2.imp id fun ⟨a,c,d⟩=>⟨a,c,fun j hj hn => ?_⟩⟩,fun y hy=>base y (by rw [hf];exact hy)⟩
     by_cases hji:j=i
     · subst hji;rw [hq,←c];exact hf
     · exact d j (by omega) hn
   | false=>
     cases hnu:nuB nt f p.2.1 with
     | true=>
       have ho:=offs_upd hf nn hsl
       refine ⟨(true,upd f (sy nt p.1) true),⟨nul_add hs.1 hm hnu,.inl ⟨rfl,?_⟩⟩,fun y hy=>base y (by rw [hf,hnu];exact hy)⟩
       rcases hs.2 with ⟨_,h1⟩|⟨_,h1,_⟩
       · simp only;omega
       · subst h1;simp only;omega
     | false=>
       refine ⟨(b,f),⟨hs.1,hs.2.imp id fun ⟨a,c,d⟩=>⟨a,c,fun j hj hn => ?_⟩⟩,fun y hy=>base y (by rw [hf,hnu];exact hy)⟩
       by_cases hji:j=i
       · subst hji;rw [hq,←c,hnu] at hn;cases hn
       · exact d j (by omega) hn
theorem null_s (h:RB nt nn ps) (hT:T.length=nt) (hN:Ns.length=nn) : ∃f,Fs_l04Null T Ns own (ps.map avProd)=some (rB nn f) ∧ ∀i,f i=true↔Nul nt ps i:=by
 have hn100:=h.n100
 obtain ⟨t,h1,f,rfl,h2⟩:=loop_meas (fun (s:Bool×(Nat→Bool))=>Ls_l04Null_0 s.1 T Ns own (ps.map avProd) (rB nn s.2)) (fun s=>(∀j,s.2 j=true→Nul nt ps j)∧(s.1=false → ∀p∈ps,nuB nt s.2 p.2.1=true→s.2 (sy nt p.1)=true))
  (fun t => ∃f,t=rB nn f ∧ ∀i,f i=true↔Nul nt ps i) (fun s=>2*offs nn s.2+if s.1 then 1 else 0) (fun s hs=>by
    obtain ⟨b,f⟩:=s
    cases b with
    | false=>exact .inl ⟨_,ls_l04Null_0 _ _ _ _ _ _ rfl,f,rfl,nul_iff hs.1 (hs.2 rfl)⟩
    | true=>
      obtain ⟨_,k1,b,f',rfl,k2,k3⟩:=pass_s (own:=own) (Ns:=Ns) h hT f hs.1
      refine .inr ⟨(b,f'),⟨k2,fun hb => ?_⟩,?_,fun y hy=>ls_l04Null_0 _ _ _ _ _ _ (by simp only [cond_true,k1,Option.bind_some];exact hy)⟩
      · rcases k3 with ⟨k,_⟩|⟨_,k,k4⟩
        · simp only at hb;rw [k] at hb;cases hb
        · simp only;rw [k];exact k4
      · rcases k3 with ⟨k,k4⟩|⟨k,k4,_⟩
        · subst k;simp only [if_true];omega
        · subst k;subst k4;simp) _ (true,fun _=>false) (Nat.lt_succ_self _) ⟨fun j hj=>by simp at hj,fun hb=>by simp at hb⟩
 refine ⟨f,us_l04Null _ _ _ _ ?_,h2⟩
 have cc:capB nn 1=true:=capB_le (by omega)
 have le:decide ((nn:Int)≤(nn:Int))=true:=by simp
 have e:Ls_l04Null_0 true T Ns own (ps.map avProd) (rB nn fun _=>false)=some (rB nn f):=h1
 unfold rB at e
 rw [←tbl_rep] at e
 simp only [hN,d0_true,le,Int.toNat_natCast,cc,Bool.and_self,cond_true]
 rw [e]
 have e2:=rB_ro nn f
 unfold rB at e2 ⊢
 simp only [Option.bind_some,e2]
def At (nt:Nat) (ps:List ProdD) (f:Nat→Bool) (j k a b:Nat):Prop:=
 sy nt (ps.getD j pD).1=a∧(nt:Int)≤(ps.getD j pD).2.1.getD k 0∧sy nt ((ps.getD j pD).2.1.getD k 0)=b∧nuB nt f ((ps.getD j pD).2.1.take k)=true∧nuB nt f ((ps.getD j pD).2.1.drop (k+1))=true
def Upto (nt:Nat) (ps:List ProdD) (f:Nat→Bool) (i k:Nat) (M:Nat→Nat→Bool):Prop:=
 ∀a b,M a b=true↔(∃j,j<i ∧ ∃k',k'<(ps.getD j pD).2.1.length∧At nt ps f j k' a b) ∨ ∃k',k'<k∧At nt ps f i k' a b
theorem upto_skip {f:Nat→Bool} {i k:Nat} {M:Nat→Nat→Bool} (h:Upto nt ps f i k M) (hn : ∀a b,¬At nt ps f i k a b):Upto nt ps f i (k+1) M:=by
 intro a b
 rw [h a b]
 refine or_congr Iff.rfl ⟨fun ⟨k',h1,h2⟩=>⟨k',by omega,h2⟩,fun ⟨k',h1,h2⟩=>⟨k',?_,h2⟩⟩
 by_cases e:k'=k
 · subst e;exact absurd h2 (hn a b)
 · omega
theorem upto_add {f:Nat→Bool} {i k a0 b0:Nat} {M:Nat→Nat→Bool} (h:Upto nt ps f i k M) (hn:At nt ps f i k a0 b0):Upto nt ps f i (k+1) (upd M a0 (upd (M a0) b0 true)):=by
 intro a b
 have e:upd M a0 (upd (M a0) b0 true) a b=true↔M a b=true∨(a=a0∧b=b0):=by
  by_cases ha:a=a0
  · subst ha
    rw [upd_at]
    by_cases hb:b=b0
    · subst hb;rw [upd_at];simp
    · rw [upd_ne _ _ hb];simp [hb]
  · rw [upd_ne _ _ ha];simp [ha]
 rw [e,h a b]
 refine ⟨fun q => ?_,fun q => ?_⟩
 · rcases q with (q|⟨k',h1,h2⟩)|⟨rfl,rfl⟩
   · exact .inl q
   · exact .inr ⟨k',by omega,h2⟩
   · exact .inr ⟨k,by omega,hn⟩
 · rcases q with q|⟨k',h1,h2⟩
   · exact .inl (.inl q)
   · by_cases e2:k'=k
     · subst e2
       exact .inr ⟨h2.1.symm.trans hn.1,h2.2.2.1.symm.trans hn.2.2.1⟩
     · exact .inl (.inr ⟨k',by omega,h2⟩)
theorem upto_next {f:Nat→Bool} {i:Nat} {M:Nat→Nat→Bool} (h:Upto nt ps f i (ps.getD i pD).2.1.length M):Upto nt ps f (i+1) 0 M:=by
 intro a b
 rw [h a b]
 refine ⟨fun q => ?_,fun q => ?_⟩
 · rcases q with ⟨j,h1,h2⟩|⟨k',h1,h2⟩
   · exact .inl ⟨j,by omega,h2⟩
   · exact .inl ⟨i,by omega,k',h1,h2⟩
 · rcases q with ⟨j,h1,k',h2,h3⟩|⟨k',h1,_⟩
   · by_cases e:j=i
     · subst e;exact .inr ⟨k',h2,h3⟩
     · exact .inl ⟨j,by omega,k',h2,h3⟩
   · omega
theorem upto_all {f:Nat→Bool} {M:Nat→Nat→Bool} (h:Upto nt ps f ps.length 0 M) (a b:Nat):M a b=true↔StB nt ps f a b:=by
 rw [h a b]
 refine ⟨fun q => ?_,fun ⟨p,hp,h1,k,h2,h3⟩ => ?_⟩
 · rcases q with ⟨j,h1,k,h2,h3⟩|⟨k',h1,_⟩
   · exact ⟨_,getD_mem pD h1,h3.1,k,h2,h3.2⟩
   · omega
 · obtain ⟨j,hj,rfl⟩:=List.mem_iff_getElem.1 hp
   have e:ps.getD j pD=ps[j]:=by simp [List.getD_eq_getElem?_getD,hj]
   refine .inl ⟨j,hj,k,by rw [e];exact h2,?_⟩
   unfold At
   rw [e]
   exact ⟨h1,h3⟩
theorem rows_s (nr:List AVal) (hn:nn≤100) (P:List AVal) : ∃t,Ls_l04Leads_0 true true nr (nn:Int) 0 T Ns own P (List.replicate nn (.own 1 []))=some t∧t=(true,true,nr,(nn:Int),T,Ns,own,P,mB nn nn fun _ _=>false):=by
 have h:=loop_inv (fun i (s:Unit)=>Ls_l04Leads_0 true true nr (nn:Int) (i:Int) T Ns own P (tbl nn fun j=>if j<i then .own 1 (rB nn fun _=>false) else .own 1 [])) nn (fun _ _=>True)
  (fun t=>t=(true,true,nr,(nn:Int),T,Ns,own,P,mB nn nn fun _ _=>false)) (fun s _=>⟨_,ls_l04Leads_0 _ _ _ _ _ _ _ _ _ _ (by simp only [lt_self,cond_false] <;> rfl),by
    have:(tbl nn fun j=>if j<nn then AVal.own 1 (rB nn fun _=>false) else .own 1 [])=mB nn nn fun _ _=>false:=tbl_congr fun i hi=>if_pos hi
    rw [this]⟩) (fun i hi s _=>⟨(),trivial,fun y hy=>by
    refine ls_l04Leads_0 _ _ _ _ _ _ _ _ _ _ ?_
    have cc:capB nn 1=true:=capB_le (by omega)
    have le:decide ((nn:Int)≤(nn:Int))=true:=by simp
    have w:IntKind.wrap .i64 ((i:Int)+1)=((i+1:Nat):Int):=wrap_i (by omega)
    have ag:aggQ (if i<i then AVal.own 1 (rB nn fun _=>false) else .own 1 [])=false:=by rw [if_neg (by omega)];rfl
    have e:(tbl nn fun j=>if j<i then AVal.own 1 (rB nn fun _=>false) else .own 1 []).set i (.own 1 (List.replicate nn (.bool false)))=tbl nn fun j=>if j<i+1 then .own 1 (rB nn fun _=>false) else .own 1 []:=by
     rw [tbl_set,tbl_rep]
     refine tbl_congr fun j hj => ?_
     unfold upd
     by_cases hji:j=i
     · rw [if_pos hji,if_pos (by omega)];rfl
     · rw [if_neg hji]
       dsimp only
       by_cases hj2:j<i
       · rw [if_pos hj2,if_pos (by omega)]
       · rw [if_neg hj2,if_neg (by omega)]
    rw [←hy]
    simp only [lt_true hi,cond_true,d0_true,le,Int.toNat_natCast,cc,Bool.and_self,tbl_len,blt_true hi,tbl_get _ hi,ag,Bool.not_false,e,w]⟩) nn 0 (by omega) () trivial
 have e0:(tbl nn fun j=>if j<0 then AVal.own 1 (rB nn fun _=>false) else .own 1 [])=List.replicate nn (.own 1 []):=by
  rw [tbl_rep];exact tbl_congr fun i _=>if_neg (by omega)
 simp only [Int.natCast_zero,e0] at h
 exact h
theorem kids_s (h:RB nt nn ps) (hT:T.length=nt) (f:Nat→Bool) {i:Nat} (hi:i<ps.length) (c2:ByteArray) (c3 c4:Int) (M:Nat→Nat→Bool) (hM:Upto nt ps f i 0 M) :
 ∃t,Ls_l04Leads_2 true true (rB nn f) (nn:Int) (i:Int) 0 T Ns own (ps.map avProd) (mB nn nn M) (ps.getD i pD).1 ((ps.getD i pD).2.1.map iv) c2 c3 c4=some t ∧
  ∃M',t=(true,true,rB nn f,(nn:Int),(i:Int),T,Ns,own,ps.map avProd,mB nn nn M')∧Upto nt ps f i (ps.getD i pD).2.1.length M':=by
 have hm:ps.getD i pD∈ps:=getD_mem pD hi
 have hn100:=h.n100
 have ht60:=h.t60
 have hlf:=h.lf _ hm
 have hsl:=h.sy_lt hm
 have hrl:=h.rl _ hm
 have hrs:=h.rs _ hm
 have hAt : ∀k a b,At nt ps f i k a b↔sy nt (ps.getD i pD).1=a∧(nt:Int)≤(ps.getD i pD).2.1.getD k 0∧sy nt ((ps.getD i pD).2.1.getD k 0)=b∧nuB nt f ((ps.getD i pD).2.1.take k)=true∧nuB nt f ((ps.getD i pD).2.1.drop (k+1))=true:=fun _ _ _=>Iff.rfl
 generalize hq:ps.getD i pD=p at hm hlf hsl hrl hrs hAt
 have e1:p.1-(nt:Int)=((sy nt p.1:Nat):Int):=by unfold sy;omega
 refine loop_inv (fun k (M:Nat→Nat→Bool)=>Ls_l04Leads_2 true true (rB nn f) (nn:Int) (i:Int) (k:Int) T Ns own (ps.map avProd) (mB nn nn M) p.1 (p.2.1.map iv) c2 c3 c4) p.2.1.length (fun k M=>Upto nt ps f i k M)
  _ (fun M hM=>⟨_,ls_l04Leads_2 _ _ _ _ _ _ _ _ _ _ _ _ _ _ _ _ (by simp only [List.length_map,lt_self,cond_false] <;> rfl),M,rfl,hM⟩) (fun k hk M hM => ?_) p.2.1.length 0 (by omega) M hM
 have hsk:=hrs _ (getD_in hk)
 have w:IntKind.wrap .i64 ((k:Int)+1)=((k+1:Nat):Int):=wrap_i (by omega)
 have nk:=non_s (own:=own) (Ns:=Ns) hT ht60 (ps.map avProd) hsk.1 (by omega)
 have nl:=non_s (own:=own) (Ns:=Ns) hT ht60 (ps.map avProd) (show 0≤p.1 by omega) (by omega)
 rw [e1] at nl
 have a1:=alln_s (own:=own) (Ns:=Ns) hT ht60 hn100 (ps.map avProd) f (p.2.1.take k) (by rw [List.length_take];omega) (fun s hs=>hrs s (List.mem_of_mem_take hs))
 have a2:=alln_s (own:=own) (Ns:=Ns) hT ht60 hn100 (ps.map avProd) f (p.2.1.drop (k+1)) (by rw [List.length_drop];omega) (fun s hs=>hrs s (List.mem_of_mem_drop hs))
 have l1:decide ((k:Int)≤(p.2.1.length:Int))=true:=decide_eq_true (by omega)
 have l2:decide (((k+1:Nat):Int)≤(p.2.1.length:Int))=true:=decide_eq_true (by omega)
 have ln:(p.2.1.map iv).length=p.2.1.length:=List.length_map _
 have dm:=drop_map_iv p.2.1 (k+1)
 rw [ln] at dm
 by_cases hv:(nt:Int)≤p.2.1.getD k 0
 · have e2:p.2.1.getD k 0-(nt:Int)=((sy nt (p.2.1.getD k 0):Nat):Int):=by unfold sy;omega
   have hs2:sy nt (p.2.1.getD k 0)<nn:=by omega
   have e3:decide (((sy nt (p.2.1.getD k 0):Nat):Int)<0)=false:=decide_eq_false (by omega)
   rw [e2] at nk
   cases h1:nuB nt f (p.2.1.take k) with
   | false=>
     rw [h1] at a1
     refine ⟨M,upto_skip hM (fun a b q=>by have:=(hAt k a b).1 q;rw [h1] at this;exact absurd this.2.2.2.1 (by simp)),fun y hy=>ls_l04Leads_2 _ _ _ _ _ _ _ _ _ _ _ _ _ _ _ _ ?_⟩
     rw [←hy]
     simp only [ln,lt_true hk,d0_true,Bool.and_self,cond_true,cond_false,Int.toNat_natCast,getD_map' iv 0 hk,e_int,e_toInt,nk,Option.bind_some,e3,l1,take_map_iv,a1,Bool.not_false,w]
   | true=>
     rw [h1] at a1
     cases h2:nuB nt f (p.2.1.drop (k+1)) with
     | false=>
       rw [h2] at a2
       refine ⟨M,upto_skip hM (fun a b q=>by have:=(hAt k a b).1 q;rw [h2] at this;exact absurd this.2.2.2.2 (by simp)),fun y hy=>ls_l04Leads_2 _ _ _ _ _ _ _ _ _ _ _ _ _ _ _ _ ?_⟩
       rw [←hy]
       simp only [ln,lt_true hk,d0_true,Bool.and_self,cond_true,cond_false,Int.toNat_natCast,getD_map' iv 0 hk,e_int,e_toInt,nk,Option.bind_some,e3,l1,take_map_iv,a1,Bool.not_true,Bool.not_false,w,l2,dm,a2]
     | true=>
       rw [h2] at a2
       refine ⟨upd M (sy nt p.1) (upd (M (sy nt p.1)) (sy nt (p.2.1.getD k 0)) true),upto_add hM ((hAt k _ _).2 ⟨rfl,hv,rfl,h1,h2⟩),fun y hy=>ls_l04Leads_2 _ _ _ _ _ _ _ _ _ _ _ _ _ _ _ _ ?_⟩
       rw [←hy]
       simp only [ln,lt_true hk,d0_true,Bool.and_self,cond_true,cond_false,Int.toNat_natCast,getD_map' iv 0 hk,e_int,e_toInt,nk,nl,Option.bind_some,e3,l1,take_map_iv,a1,Bool.not_true,Bool.not_false,w,l2,dm,a2,mB_len,lt_true hsl,blt_true hsl,mB_get M hsl,sh_own,el_own,rB_len,lt_true hs2,own_okp,blt_true hs2,own_get,rB_get _ hs2,ag_bool,own_put,rB_set,mB_set]
 · have e3:decide (p.2.1.getD k 0-(nt:Int)<0)=true:=decide_eq_true (by omega)
   refine ⟨M,upto_skip hM (fun a b q=>absurd ((hAt k a b).1 q).2.1 hv),fun y hy=>ls_l04Leads_2 _ _ _ _ _ _ _ _ _ _ _ _ _ _ _ _ ?_⟩
   rw [←hy]
   simp only [ln,lt_true hk,d0_true,Bool.and_self,cond_true,Int.toNat_natCast,getD_map' iv 0 hk,e_int,e_toInt,nk,Option.bind_some,e3,w]
theorem prods_s (h:RB nt nn ps) (hT:T.length=nt) (f:Nat→Bool) :
 ∃t,Ls_l04Leads_1 true true (rB nn f) (nn:Int) 0 T Ns own (ps.map avProd) (mB nn nn fun _ _=>false)=some t ∧ ∃M,t=((nn:Int),mB nn nn M) ∧ ∀a b,M a b=true↔StB nt ps f a b:=by
 have hp120:=h.p120
 refine loop_inv (fun i (M:Nat→Nat→Bool)=>Ls_l04Leads_1 true true (rB nn f) (nn:Int) (i:Int) T Ns own (ps.map avProd) (mB nn nn M)) ps.length (fun i M=>Upto nt ps f i 0 M)
  _ (fun M hM=>⟨_,ls_l04Leads_1 _ _ _ _ _ _ _ _ _ _ (by simp only [List.length_map,lt_self,cond_false] <;> rfl),M,rfl,upto_all hM⟩) (fun i hi M hM => ?_) ps.length 0 (by omega) _ (fun a b=>by simp)
 obtain ⟨_,k1,M',rfl,k2⟩:=kids_s (own:=own) (Ns:=Ns) h hT f hi (ps.getD i pD).2.2.1 (ps.getD i pD).2.2.2.1 (ps.getD i pD).2.2.2.2 M hM
 refine ⟨M',upto_next k2,fun y hy=>ls_l04Leads_1 _ _ _ _ _ _ _ _ _ _ ?_⟩
 have w:IntKind.wrap .i64 ((i:Int)+1)=((i+1:Nat):Int):=wrap_i (by omega)
 rw [←hy]
 simp only [List.length_map,lt_true hi,d0_true,Bool.and_self,cond_true,Int.toNat_natCast,getD_map' avProd pD hi,sh_Prod,c0_Prod,c1_Prod,c2_Prod,c3_Prod,c4_Prod,k1,Option.bind_some,w]
theorem war5 {n k i:Nat} (hn:n≤100) (hk:k<n) (hi:i<n) (M:Nat→Nat→Bool) :
 ∃t,Ls_l04Leads_5 (n:Int) (k:Int) (i:Int) 0 (mB n n (ph M k i 0))=some t∧t=((n:Int),(k:Int),(i:Int),mB n n (ph M k (i+1) 0)):=by
 cases hik:M i k with
 | false=>
   have hsk:mB n n (ph M k i 0)=mB n n (ph M k (i+1) 0):=mB_congr fun a _ b _=>ph_skip hik 0 a b
   refine ⟨_,ls_l04Leads_5 _ _ _ _ _ ?_,rfl⟩
   have z:decide ((0:Int)<(n:Int))=true:=decide_eq_true (by omega)
   simp only [z,cond_true,d0_true,mB_len,lt_true hi,Bool.and_self,blt_true hi,mB_get _ hi,sh_own,el_own,rB_len,lt_true hk,Int.toNat_natCast,own_okg,blt_true hk,own_get,rB_get _ hk,sh_bool,to_bool,ph_k,hik,cond_false,hsk]
 | true=>
   refine loop_inv (fun j (s:Unit)=>Ls_l04Leads_5 (n:Int) (k:Int) (i:Int) (j:Int) (mB n n (ph M k i j))) n (fun _ _=>True) _ (fun s _=>⟨_,ls_l04Leads_5 _ _ _ _ _ (by simp only [lt_self,cond_false] <;> rfl),by rw [mB_congr fun a _ b hb=>ph_row hb]⟩) (fun j hj s _=>⟨(),trivial,fun y hy=>ls_l04Leads_5 _ _ _ _ _ ?_⟩) n 0 (by omega) () trivial
   have w:IntKind.wrap .i64 ((j:Int)+1)=((j+1:Nat):Int):=wrap_i (by omega)
   have st:=ph_step hik j
   rw [←hy]
   simp only [lt_true hj,cond_true,d0_true,mB_len,lt_true hi,lt_true hk,Bool.and_self,blt_true hi,blt_true hk,mB_get _ hi,mB_get _ hk,sh_own,el_own,rB_len,Int.toNat_natCast,own_okg,own_okp,own_get,own_put,blt_true hj,rB_get _ hk,rB_get _ hj,sh_bool,to_bool,ag_bool,Bool.not_false,ph_k,ph_kr,hik,rB_set,mB_set,w]
   cases hij:ph M k i j i j with
   | true=>
     rw [hij,Bool.true_or] at st
     simp only [cond_true]
     rw [st]
   | false=>
     rw [hij,Bool.false_or] at st
     simp only [cond_false,Bnd]
     rw [st]
theorem war4 {n k:Nat} (hn:n≤100) (hk:k<n) (M:Nat→Nat→Bool) :
 ∃t,Ls_l04Leads_4 (n:Int) (k:Int) 0 (mB n n M)=some t∧t=((n:Int),(k:Int),mB n n fun a b=>M a b||(M a k&&M k b)):=by
 have h:=loop_inv (fun i (s:Unit)=>Ls_l04Leads_4 (n:Int) (k:Int) (i:Int) (mB n n (ph M k i 0))) n (fun _ _=>True) (fun t=>t=((n:Int),(k:Int),mB n n fun a b=>M a b||(M a k&&M k b))) (fun s _=>⟨_,ls_l04Leads_4 _ _ _ _ (by simp only [lt_self,cond_false] <;> rfl),by rw [mB_congr fun a ha b _=>ph_full ha b]⟩) (fun i hi s _=>⟨(),trivial,fun y hy=>ls_l04Leads_4 _ _ _ _ (by
  obtain ⟨_,k1,rfl⟩:=war5 hn hk hi M
  have w:IntKind.wrap .i64 ((i:Int)+1)=((i+1:Nat):Int):=wrap_i (by omega)
  rw [←hy]
  simp only [lt_true hi,cond_true,k1,Option.bind_some,w])⟩) n 0 (by omega) () trivial
 rw [ph_zero] at h
 exact h
theorem war3 {n:Nat} (hn:n≤100) {S:Nat→Nat→Prop} (M:Nat→Nat→Bool) (hM:War S n 0 M) :
 ∃t,Ls_l04Leads_3 (n:Int) 0 (mB n n M)=some t ∧ ∃M',t=mB n n M'∧War S n n M':=
 loop_inv (fun k (M:Nat→Nat→Bool)=>Ls_l04Leads_3 (n:Int) (k:Int) (mB n n M)) n (fun k M=>War S n k M) _ (fun M hM=>⟨_,ls_l04Leads_3 _ _ _ (by simp only [lt_self,cond_false] <;> rfl),M,rfl,hM⟩) (fun k hk M hM=>⟨_,hM.step hk,fun y hy=>ls_l04Leads_3 _ _ _ (by
  obtain ⟨_,k1,rfl⟩:=war4 hn hk M
  have w:IntKind.wrap .i64 ((k:Int)+1)=((k+1:Nat):Int):=wrap_i (by omega)
  rw [←hy]
  simp only [lt_true hk,cond_true,k1,Option.bind_some,w])⟩) n 0 (by omega) M hM
theorem mB_ro (n m:Nat) (M:Nat→Nat→Bool):asRoL (mB n m M)=tbl n fun i=>.ro false 1 (rB m (M i)):=by
 unfold mB
 rw [tbl_ro]
 exact tbl_congr fun i _=>by simp only [asRo,rB_ro]
theorem cyc_s (h:RB nt nn ps) (hT:T.length=nt) (hN:Ns.length=nn) : ∃c f,Fs_l04Cyclic T Ns own (ps.map avProd)=some c∧(∀i,f i=true↔Nul nt ps i)∧(c=true ↔ ∃i,i<nn∧Rch (StB nt ps f) i i):=by
 have hn100:=h.n100
 obtain ⟨f,h1,h2⟩:=null_s (own:=own) h hT hN
 obtain ⟨_,k1,rfl⟩:=rows_s (T:=T) (Ns:=Ns) (own:=own) (rB nn f) hn100 (ps.map avProd)
 obtain ⟨_,k2,M,rfl,k3⟩:=prods_s (own:=own) (Ns:=Ns) h hT f
 obtain ⟨_,k4,M',rfl,k5⟩:=war3 hn100 (S:=StB nt ps f) M ⟨fun a b=>(k3 a b).2,fun a b _ _ hm=>.one ((k3 a b).1 hm),fun m hm=>by omega⟩
 have hall : ∀i,i<nn→(M' i i=true↔Rch (StB nt ps f) i i):=fun i hi=>k5.all (StB.lt h) hi hi
 have cc:capB nn 24=true:=capB_le (by omega)
 have le:decide ((nn:Int)≤(nn:Int))=true:=by simp
 have e1:Fs_l04Leads T Ns own (ps.map avProd) true true=some (tbl nn fun i=>.ro false 1 (rB nn (M' i))):=by
  refine us_l04Leads _ _ _ _ _ _ ?_
  simp only [h1,Option.bind_some,hN,d0_true,le,Int.toNat_natCast,cc,Bool.and_self,cond_true,k1,k2,k4,mB_ro]
 obtain ⟨t,e2,e3⟩:=loop_ex (fun i (s:Unit)=>Ls_l04Cyclic_0 (tbl nn fun i=>.ro false 1 (rB nn (M' i))) (i:Int)) nn (fun i _ => ∀j,j<i→M' j j=false)
  (fun t=>(t=.inl true ∧ ∃i,i<nn∧M' i i=true)∨(t=.inr () ∧ ∀i,i<nn→M' i i=false)) (fun s hs=>⟨_,ls_l04Cyclic_0 _ _ (by simp only [tbl_len,lt_self,cond_false] <;> rfl),.inr ⟨rfl,hs⟩⟩) (fun i hi s hs=>by
    have w:IntKind.wrap .i64 ((i:Int)+1)=((i+1:Nat):Int):=wrap_i (by omega)
    cases hm:M' i i with
    | true=>exact .inl ⟨_,ls_l04Cyclic_0 _ _ (by simp only [tbl_len,lt_true hi,d0_true,Bool.and_self,cond_true,Int.toNat_natCast,tbl_get _ hi,sh_ro,el_ro,rB_len,rB_get _ hi,sh_bool,to_bool,hm] <;> rfl),.inl ⟨rfl,i,hi,hm⟩⟩
    | false=>
      refine .inr ⟨(),fun j hj => ?_,fun y hy=>ls_l04Cyclic_0 _ _ ?_⟩
      · by_cases e:j=i
        · rw [e];exact hm
        · exact hs j (by omega)
      · rw [←hy]
        simp only [tbl_len,lt_true hi,d0_true,Bool.and_self,cond_true,cond_false,Int.toNat_natCast,tbl_get _ hi,sh_ro,el_ro,rB_len,rB_get _ hi,sh_bool,to_bool,hm,w]) nn 0 (by omega) () (fun j hj=>by omega)
 simp only [Int.natCast_zero] at e2
 rcases e3 with ⟨rfl,i,hi,hm⟩|⟨rfl,hm⟩
 · refine ⟨true,f,us_l04Cyclic _ _ _ _ ?_,h2,⟨fun _=>⟨i,hi,(hall i hi).1 hm⟩,fun _=>rfl⟩⟩
   simp only [e1,Option.bind_some,e2,Sum.elim_inl]
 · refine ⟨false,f,us_l04Cyclic _ _ _ _ ?_,h2,⟨fun q=>absurd q (by simp),fun ⟨i,hi,hr⟩=>by have:=(hall i hi).2 hr;rw [hm i hi] at this;cases this⟩⟩
   simp only [e1,Option.bind_some,e2,Sum.elim_inr]
end
end Go.Proofs.Ytnbpmjfemeeecaa
