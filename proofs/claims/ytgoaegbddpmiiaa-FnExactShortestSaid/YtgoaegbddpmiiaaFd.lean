/- Facts of plain rules: what can begin, and the rules of each; no condition. -/
import Derived.Test.YtgoaegbddpmiiaaFc
namespace Go.Proofs.Ytgoaegbddpmiiaa
open Go.VK AVal
theorem set_und (l:List AVal) (i:Nat):(l.set i .und).getD i .und=.und:=by
 by_cases h:i<l.length
 · simp [List.getD_eq_getElem?_getD,h]
 · simp [List.getD_eq_getElem?_getD,h]
theorem merge_i {m:Nat} (hm:m≤1000) (f g:Nat→Bool) : ∃t,Fi_merge (rB m f) (rB m g)=some t ∧ ∃b g',t=(b,rB m g')∧((b=true∧offs m g'<offs m g)∨(b=false∧g'=g)):=by
 obtain ⟨t,e1,b,g',rfl,e2⟩:=loop_inv (fun i (s:Bool×(Nat→Bool))=>Li_merge_0 s.1 (rB m f) (m:Int) (i:Int) (rB m s.2)) m (fun i s=>(s.1=true∧offs m s.2<offs m g)∨(s.1=false∧s.2=g))
  (fun t => ∃b g',t=(b,rB m g')∧((b=true∧offs m g'<offs m g)∨(b=false∧g'=g))) (fun s hs=>⟨_,li_merge_0 _ _ _ _ _ (by simp only [lt_self,cond_false] <;> rfl),s.1,s.2,rfl,hs⟩) (fun i hi s hs=>by
    obtain ⟨b,h⟩:=s
    simp only at hs ⊢
    have w:IntKind.wrap .i64 ((i:Int)+1)=((i+1:Nat):Int):=wrap_i (by omega)
    by_cases q:f i=true∧h i=false
    · have ho:=offs_upd q.2 m hi
      refine ⟨(true,upd h i true),.inl ⟨rfl,?_⟩,fun y hy=>li_merge_0 _ _ _ _ _ ?_⟩
      · simp only
        rcases hs with ⟨_,hs⟩|⟨_,hs⟩
        · omega
        · subst hs;omega
      · rw [←hy]
        simp only [lt_true hi,cond_true,d0_true,rB_len,Bool.and_self,Int.toNat_natCast,rB_get _ hi,sh_bool,to_bool,q.1,q.2,blt_true hi,Bool.not_false,ag_bool,rB_set,w]
    · refine ⟨(b,h),hs,fun y hy=>li_merge_0 _ _ _ _ _ ?_⟩
      rw [←hy]
      simp only [lt_true hi,cond_true,d0_true,rB_len,Bool.and_self,Int.toNat_natCast,rB_get _ hi,sh_bool,to_bool,blt_true hi,w]
      cases hf:f i with
      | false=>rfl
      | true=>
        cases hh:h i with
        | true=>rfl
        | false=>exact absurd ⟨hf,hh⟩ q) m 0 (by omega) (false,g) (.inr ⟨rfl,rfl⟩)
 refine ⟨_,ui_merge _ _ ?_,b,g',rfl,e2⟩
 simp only [Int.natCast_zero] at e1
 simp only [rB_len,e1,Option.bind_some]
section
variable {nt nn:Nat} {ps:List ProdD} {T Ns P:List AVal} {own:Int} {a b c d e:List AVal}
theorem first_i (h60:nt≤60) (hn:nn≤100) (f:Nat→Bool) (F:Nat→Nat→Bool) (l:List Int) (hl:l.length≤12) (hs : ∀s∈l,0≤s∧s<(nt:Int)+nn) :
 ∃t,Fi_facts_firstOf (fV T Ns own P nt nn (rB nn f) b c (asRoL (mB nn nt F)) e) (l.map iv)=some t ∧ ∃g,t=rB nt g:=by
 obtain ⟨t,e1,g,rfl⟩:=loop_ex (fun k (g:Nat→Bool)=>Li_facts_firstOf_0 (fV T Ns own P nt nn (rB nn f) b c (asRoL (mB nn nt F)) e) (l.map iv) (l.length:Int) (k:Int) (rB nt g)) l.length (fun _ _=>True) (fun t => ∃g,t=rB nt g)
  (fun g _=>⟨_,li_facts_firstOf_0 _ _ _ _ _ (by simp only [lt_self,cond_false] <;> rfl),g,rfl⟩) (fun k hk g _=>by
    have hm:=hs _ (getD_in hk)
    have w:IntKind.wrap .i64 ((k:Int)+1)=((k+1:Nat):Int):=wrap_i (by omega)
    by_cases hv:l.getD k 0<(nt:Int)
    · obtain ⟨z,hz⟩ : ∃z:Nat,l.getD k 0=z:=⟨(l.getD k 0).toNat,by omega⟩
      have hz2:z<nt:=by omega
      refine .inl ⟨_,li_facts_firstOf_0 _ _ _ _ _ ?_,upd g z true,rfl⟩
      rw [hz] at hv
      simp only [List.length_map,lt_true hk,cond_true,d0_true,Bool.and_self,Int.toNat_natCast,getD_map' iv 0 hk,e_int,e_toInt,fV4,sh_int,to_int,hz,hv,decide_true,rB_len,lt_true hz2,blt_true hz2,rB_get _ hz2,ag_bool,Bool.not_false,rB_set]
    · have e1:=sy_eq (nt:=nt) (s:=l.getD k 0) (by omega) h60 (by omega)
      have e2:sy nt (l.getD k 0)<nn:=by unfold sy;omega
      obtain ⟨_,k1,bb,g',rfl,_⟩:=merge_i (m:=nt) (by omega) (F (sy nt (l.getD k 0))) g
      have base : ∀y,(bif !f (sy nt (l.getD k 0)) then some (rB nt g') else Li_facts_firstOf_0 (fV T Ns own P nt nn (rB nn f) b c (asRoL (mB nn nt F)) e) (l.map iv) (l.length:Int) ((k+1:Nat):Int) (rB nt g'))=some y→Li_facts_firstOf_0 (fV T Ns own P nt nn (rB nn f) b c (asRoL (mB nn nt F)) e) (l.map iv) (l.length:Int) (k:Int) (rB nt g)=some y:=by
       intro y hy
       refine li_facts_firstOf_0 _ _ _ _ _ ?_
       rw [←hy]
       simp only [List.length_map,lt_true hk,cond_true,d0_true,Bool.and_self,Int.toNat_natCast,getD_map' iv 0 hk,e_int,e_toInt,fV4,fV6,fV9,sh_int,to_int,hv,decide_false,cond_false,sh_ro,el_ro,e1,mB_ro,tbl_len,lt_true e2,tbl_get _ e2,k1,Option.bind_some,rB_len,rB_get _ e2,sh_bool,to_bool,w]
      cases hf:f (sy nt (l.getD k 0)) with
      | false=>exact .inl ⟨_,base _ (by rw [hf] <;> rfl),g',rfl⟩
      | true=>exact .inr ⟨g',trivial,fun y hy=>base y (by rw [hf];exact hy)⟩) l.length 0 (by omega) (fun _=>false) trivial
 refine ⟨_,ui_facts_firstOf _ _ ?_,g,rfl⟩
 have cc:capB nt 1=true:=capB_le (by omega)
 have er:List.replicate nt (AVal.bool false)=rB nt fun _=>false:=tbl_rep _ _
 simp only [Int.natCast_zero] at e1
 simp only [fV4,sh_int,to_int,cond_true]
 simp only [Int.toNat_natCast,cc,List.length_map,er,e1,Option.bind_some]
 simp
def nuF (nn nt:Nat) (F:Nat→Nat→Bool):Nat:=((List.range nn).map fun i=>offs nt (F i)).sum
theorem nuF_upd {m:Nat} {F:Nat→Nat→Bool} {i:Nat} {g:Nat→Bool} : ∀n,i<n→nuF n m (upd F i g)+offs m (F i)=nuF n m F+offs m g
 | 0,h=>by omega
 | n+1,h=>by
   unfold nuF
   simp only [List.range_succ,List.map_append,List.sum_append,List.map_cons,List.map_nil,List.sum_cons,List.sum_nil,Nat.add_zero]
   by_cases hn:i=n
   · subst hn
     have e:((List.range i).map fun j=>offs m (upd F i g j))=(List.range i).map fun j=>offs m (F j):=List.map_congr_left fun j hj=>by
      have:j<i:=List.mem_range.1 hj
      rw [upd_ne _ _ (by omega)]
     rw [e,upd_at];omega
   · have ih:=nuF_upd (F:=F) (g:=g) (m:=m) n (show i<n by omega)
     unfold nuF at ih
     rw [upd_ne _ _ (show n≠i by omega)]
     omega
theorem round2_i (h:RB nt nn ps) (f k:Nat→Bool) (L:Nat→Int) (B:List AVal) (F0:Nat→Nat→Bool) :
 ∃t,Fi_factsOf_2 T Ns own (ps.map avProd) T Ns own (ps.map avProd) (nt:Int) (nn:Int) (rB nn f) (rB nn k) (rI nn L) (mB nn nt F0) B=some t ∧ ∃b F,t=(b,T,Ns,own,ps.map avProd,T,Ns,own,ps.map avProd,(nt:Int),(nn:Int),rB nn f,rB nn k,rI nn L,mB nn nt F,B)∧(b=true→nuF nn nt F<nuF nn nt F0):=by
 have hp120:=h.p120
 have h60:=h.t60
 have hn100:=h.n100
 obtain ⟨t,e1,b,F,rfl,e2⟩:=loop_inv (fun i (s:Bool×(Nat→Nat→Bool))=>Li_factsOf_2_0 s.1 (ps.map avProd) (ps.length:Int) (i:Int) T Ns own (ps.map avProd) T Ns own (ps.map avProd) (nt:Int) (nn:Int) (rB nn f) (rB nn k) (rI nn L) (mB nn nt s.2) B) ps.length
  (fun i s=>(s.1=true→nuF nn nt s.2<nuF nn nt F0)∧nuF nn nt s.2≤nuF nn nt F0)
  (fun t => ∃b F,t=(b,T,Ns,own,ps.map avProd,T,Ns,own,ps.map avProd,(nt:Int),(nn:Int),rB nn f,rB nn k,rI nn L,mB nn nt F,B)∧(b=true→nuF nn nt F<nuF nn nt F0))
  (fun s hs=>⟨_,li_factsOf_2_0 _ _ _ _ _ _ _ _ _ _ _ _ _ _ _ _ _ _ _ (by simp only [lt_self,cond_false] <;> rfl),s.1,s.2,rfl,hs.1⟩) (fun i hi s hs=>by
    obtain ⟨nw,F⟩:=s
    simp only at hs ⊢
    have hm:ps.getD i pD∈ps:=getD_mem pD hi
    have w:IntKind.wrap .i64 ((i:Int)+1)=((i+1:Nat):Int):=wrap_i (by omega)
    have hgd:=getD_map' avProd pD hi
    generalize hq:ps.getD i pD=p at hm hgd
    have hlf:=h.lf p hm
    have hsl:=h.sy_lt hm
    have e1:=sy_eq hlf.1 h60 (by omega)
    obtain ⟨_,k1,g,rfl⟩:=first_i (T:=T) (Ns:=Ns) (own:=own) (P:=ps.map avProd) (b:=rB nn k) (c:=rI nn L) (e:=asRoL B) h60 hn100 f F p.2.1 (h.rl p hm) (h.rs p hm)
    obtain ⟨_,k2,bb,g',rfl,k3⟩:=merge_i (m:=nt) (by omega) g (F (sy nt p.1))
    have hsum:=nuF_upd (m:=nt) (F:=F) (g:=g') nn hsl
    have hfv:AVal.agg [.ro false 3 T,.ro false 1 Ns,.int .i64 own,.ro false 5 (ps.map avProd),.int .i64 (nt:Int),.int .i64 (nn:Int),.ro false 1 (rB nn f),.ro false 1 (rB nn k),.ro false 1 (rI nn L),.ro false 1 (asRoL (mB nn nt F)),.ro false 1 (asRoL B)]=fV T Ns own (ps.map avProd) nt nn (rB nn f) (rB nn k) (rI nn L) (asRoL (mB nn nt F)) (asRoL B):=rfl
    have ud:(AVal.und:AVal)=.und:=rfl
    have gu:=set_und (mB nn nt F) (sy nt p.1)
    have ag:aggQ .und=false:=rfl
    have io:lend.isOwn (.own 1 (rB nt (F (sy nt p.1))))=true:=rfl
    refine ⟨(bb||nw,upd F (sy nt p.1) g'),⟨fun hb => ?_,?_⟩,fun y hy=>li_factsOf_2_0 _ _ _ _ _ _ _ _ _ _ _ _ _ _ _ _ _ _ _ ?_⟩
    · simp only at hb ⊢
      rcases k3 with ⟨_,k3⟩|⟨rfl,rfl⟩
      · omega
      · have:=hs.1 (by simpa using hb)
        omega
    · simp only
      rcases k3 with ⟨_,k3⟩|⟨_,rfl⟩ <;> omega
    · rw [←hy]
      simp only [List.length_map,lt_true hi,d0_true,Bool.and_self,cond_true,Int.toNat_natCast,hgd,sh_Prod,c0_Prod,c1_Prod,e1,mB_len,lt_true hsl,blt_true hsl,mB_get _ hsl,sh_own,sho_own,el_own,io,rB_ro,rI_ro,hfv,k1,Option.bind_some,rB_noRo,k2,List.length_set,gu,ag,Bool.not_false,List.set_set,mB_set,Bnd,w]
      cases bb <;> rfl) ps.length 0 (by omega) (false,F0) ⟨fun q=>by simp at q,Nat.le_refl _⟩
 refine ⟨_,ui_factsOf_2 _ _ _ _ _ _ _ _ _ _ _ _ _ _ _ ?_,b,F,rfl,e2⟩
 simp only [Int.natCast_zero] at e1
 simp only [List.length_map,e1,Option.bind_some]
theorem firsts_i (h:RB nt nn ps) (f k:Nat→Bool) (L:Nat→Int) (B:List AVal) (F0:Nat→Nat→Bool) :
 ∃t,Fi_around_v1 T Ns own (ps.map avProd) T Ns own (ps.map avProd) (nt:Int) (nn:Int) (rB nn f) (rB nn k) (rI nn L) (mB nn nt F0) B=some t ∧ ∃F,t=(T,Ns,own,ps.map avProd,T,Ns,own,ps.map avProd,(nt:Int),(nn:Int),rB nn f,rB nn k,rI nn L,mB nn nt F,B):=by
 obtain ⟨t,e1,F,rfl⟩:=loop_meas (fun (F:Nat→Nat→Bool)=>Li_around_v1_0 T Ns own (ps.map avProd) T Ns own (ps.map avProd) (nt:Int) (nn:Int) (rB nn f) (rB nn k) (rI nn L) (mB nn nt F) B) (fun _=>True)
  (fun t => ∃F,t=(T,Ns,own,ps.map avProd,T,Ns,own,ps.map avProd,(nt:Int),(nn:Int),rB nn f,rB nn k,rI nn L,mB nn nt F,B)) (fun F=>nuF nn nt F) (fun F _=>by
    obtain ⟨_,k1,b,F',rfl,k2⟩:=round2_i (T:=T) (Ns:=Ns) (own:=own) h f k L B F
    cases b with
    | true=>exact .inr ⟨F',trivial,k2 rfl,fun y hy=>li_around_v1_0 _ _ _ _ _ _ _ _ _ _ _ _ _ _ _ (by simp only [k1,Option.bind_some,cond_true];exact hy)⟩
    | false=>exact .inl ⟨_,li_around_v1_0 _ _ _ _ _ _ _ _ _ _ _ _ _ _ _ (by simp only [k1,Option.bind_some,cond_false] <;> rfl),F',rfl⟩) _ F0 (Nat.lt_succ_self _) trivial
 refine ⟨_,ui_around_v1 _ _ _ _ _ _ _ _ _ _ _ _ _ _ _ ?_,F,rfl⟩
 simp only [e1,Option.bind_some]
def bT (n:Nat) (B:Nat→List Int):List AVal:=tbl n fun i=>.own 1 ((B i).map iv)
theorem bT_len (n:Nat) (B:Nat→List Int):(bT n B).length=n:=tbl_len _ _
theorem bT_get {n i:Nat} (B:Nat→List Int) (h:i<n):(bT n B).getD i .und=.own 1 ((B i).map iv):=tbl_get _ h
theorem bT_set {n:Nat} (B:Nat→List Int) (i:Nat) (l:List Int):(bT n B).set i (.own 1 (l.map iv))=bT n (upd B i l):=by
 unfold bT;rw [tbl_set];congr 1;funext j;unfold upd;split <;> rfl
theorem bT_ro (n:Nat) (B:Nat→List Int):asRoL (bT n B)=tbl n fun i=>.ro false 1 ((B i).map iv):=by
 unfold bT
 rw [tbl_ro]
 exact tbl_congr fun i _=>by simp only [asRo,asRoL_map asRo_iv]
def ByOK (nt:Nat) (ps:List ProdD) (i:Nat) (B:Nat→List Int):Prop := ∀a,(B a).length≤i ∧ ∀v,v∈B a ↔ ∃j,j<i∧v=((j:Nat):Int)∧sy nt (ps.getD j pD).1=a
theorem by_i (h:RB nt nn ps) (f k:Nat→Bool) (L:Nat→Int) (F:List AVal) :
 ∃t,Li_factsOf_1 (ps.map avProd) (ps.length:Int) 0 T Ns own (ps.map avProd) T Ns own (ps.map avProd) (nt:Int) (nn:Int) (rB nn f) (rB nn k) (rI nn L) F (bT nn fun _=>[])=some t ∧ ∃B,t=(T,Ns,own,ps.map avProd,T,Ns,own,ps.map avProd,(nt:Int),(nn:Int),rB nn f,rB nn k,rI nn L,F,bT nn B)∧ByOK nt ps ps.length B:=by
 have hp120:=h.p120
 have h60:=h.t60
 have hn100:=h.n100
 refine loop_inv (fun i (B:Nat→List Int)=>Li_factsOf_1 (ps.map avProd) (ps.length:Int) (i:Int) T Ns own (ps.map avProd) T Ns own (ps.map avProd) (nt:Int) (nn:Int) (rB nn f) (rB nn k) (rI nn L) F (bT nn B)) ps.length (fun i B=>ByOK nt ps i B)
  _ (fun B hB=>⟨_,li_factsOf_1 _ _ _ _ _ _ _ _ _ _ _ _ _ _ _ _ _ _ (by simp only [lt_self,cond_false] <;> rfl),B,rfl,hB⟩) (fun i hi B hB => ?_) ps.length 0 (by omega) _ (fun a=>⟨Nat.le_refl _,fun v=>by simp⟩)
 have hm:ps.getD i pD∈ps:=getD_mem pD hi
 have w:IntKind.wrap .i64 ((i:Int)+1)=((i+1:Nat):Int):=wrap_i (by omega)
 have hgd:=getD_map' avProd pD hi
 have hlf:=h.lf _ hm
 have hsl:=h.sy_lt hm
 have e1:=sy_eq hlf.1 h60 (by omega)
 generalize hq:ps.getD i pD=p at hm hgd hlf hsl e1
 have hBl:=(hB (sy nt p.1)).1
 refine ⟨upd B (sy nt p.1) (B (sy nt p.1)++[(i:Int)]),fun a => ?_,fun y hy=>li_factsOf_1 _ _ _ _ _ _ _ _ _ _ _ _ _ _ _ _ _ _ ?_⟩
 · by_cases ha:a=sy nt p.1
   · subst ha
     rw [upd_at]
     refine ⟨by simp only [List.length_append,List.length_cons,List.length_nil];omega,fun v => ?_⟩
     rw [List.mem_append,(hB _).2 v]
     simp only [List.mem_singleton]
     refine ⟨fun q => ?_,fun ⟨j,j1,j2,j3⟩ => ?_⟩
     · rcases q with ⟨j,j1,j2⟩|rfl
       · exact ⟨j,by omega,j2⟩
       · exact ⟨i,by omega,rfl,by rw [hq]⟩
     · by_cases hji:j=i
       · exact .inr (by rw [j2,hji])
       · exact .inl ⟨j,by omega,j2,j3⟩
   · rw [upd_ne _ _ ha]
     refine ⟨by have:=(hB a).1;omega,fun v => ?_⟩
     rw [(hB a).2 v]
     refine ⟨fun ⟨j,j1,j2⟩=>⟨j,by omega,j2⟩,fun ⟨j,j1,j2,j3⟩ => ?_⟩
     by_cases hji:j=i
     · rw [hji,hq] at j3;exact absurd j3.symm ha
     · exact ⟨j,by omega,j2,j3⟩
 · have cc:capB ((B (sy nt p.1)).length+1) 8=true:=capB_le (by omega)
   have gu:=set_und (bT nn B) (sy nt p.1)
   have ag:aggQ .und=false:=rfl
   have ei:(B (sy nt p.1)).map iv++[AVal.int .i64 (i:Int)]=(B (sy nt p.1)++[(i:Int)]).map iv:=by simp [iv]
   rw [←hy]
   simp only [List.length_map,lt_true hi,d0_true,Bool.and_self,cond_true,Int.toNat_natCast,hgd,sh_Prod,c0_Prod,e1,bT_len,lt_true hsl,blt_true hsl,bT_get _ hsl,sh_own,sho_own,ag_own,Bool.not_false,el_own,cc,Bnd,List.length_set,gu,ag,List.set_set,ei,bT_set,w]
theorem init_i (hn:nn≤100) (h60:nt≤60) (f k:List AVal) (B:List AVal) :
 ∃t,Li_factsOf_0 (nn:Int) 0 T Ns own P T Ns own P (nt:Int) (nn:Int) f k (rI nn fun _=>0) [] B=some t∧t=(T,Ns,own,P,T,Ns,own,P,(nt:Int),(nn:Int),f,k,(rI nn fun _ => -1),mB nn nt (fun _ _=>false),B):=by
 have h:=loop_inv (fun i (_:Unit)=>Li_factsOf_0 (nn:Int) (i:Int) T Ns own P T Ns own P (nt:Int) (nn:Int) f k (rI nn fun j=>if j<i then -1 else 0) (mB i nt fun _ _=>false) B) nn (fun _ _=>True)
  (fun t=>t=(T,Ns,own,P,T,Ns,own,P,(nt:Int),(nn:Int),f,k,(rI nn fun _ => -1),mB nn nt (fun _ _=>false),B)) (fun s _=>⟨_,li_factsOf_0 _ _ _ _ _ _ _ _ _ _ _ _ _ _ _ _ _ (by simp only [lt_self,cond_false] <;> rfl),by
    have:(rI nn fun j=>if j<nn then -1 else 0)=rI nn fun _ => -1:=tbl_congr fun i hi=>by simp only [if_pos hi]
    rw [this]⟩) (fun i hi s _=>⟨(),trivial,fun y hy=>li_factsOf_0 _ _ _ _ _ _ _ _ _ _ _ _ _ _ _ _ _ (by
    have w:IntKind.wrap .i64 ((i:Int)+1)=((i+1:Nat):Int):=wrap_i (by omega)
    have cc:capB nt 1=true:=capB_le (by omega)
    have c2:capB (i+1) 24=true:=capB_le (by omega)
    have le:decide ((nt:Int)≤(nt:Int))=true:=by simp
    have e1:(rI nn fun j=>if j<i then -1 else 0).set i (.int .i64 (-1))=rI nn fun j=>if j<i+1 then -1 else 0:=by
     rw [rI_set]
     refine tbl_congr fun j hj => ?_
     unfold upd
     by_cases hji:j=i
     · rw [if_pos hji]
       dsimp only
       rw [if_pos (by omega)]
     · rw [if_neg hji]
       dsimp only
       by_cases hj2:j<i
       · rw [if_pos hj2,if_pos (by omega)]
       · rw [if_neg hj2,if_neg (by omega)]
    have e2:mB i nt (fun _ _=>false)++[.own 1 (List.replicate nt (.bool false))]=mB (i+1) nt fun _ _=>false:=by
     unfold mB rB
     rw [tbl_rep nt (.bool false)]
     unfold tbl
     rw [List.range_succ,List.map_append];rfl
    rw [←hy]
    simp only [lt_true hi,cond_true,d0_true,rI_len,Bool.and_self,Int.toNat_natCast,blt_true hi,rI_get _ hi,ag_int,Bool.not_false,le,cc,mB_len,c2,e1,e2,Bnd,w])⟩) nn 0 (by omega) () trivial
 have e0:(rI nn fun j=>if j<0 then (-1:Int) else 0)=rI nn fun _=>0:=tbl_congr fun i _=>by dsimp only;rw [if_neg (by omega)]
 have e3:mB 0 nt (fun _ _=>false)=[]:=rfl
 simp only [Int.natCast_zero,e0,e3] at h
 exact h
theorem facts_i (h:RB nt nn ps) (hT:T.length=nt) (hN:Ns.length=nn) :
 ∃f k L F B,Fi_factsOf T Ns own (ps.map avProd)=some (T,Ns,own,ps.map avProd,(nt:Int),(nn:Int),rB nn f,rB nn k,rI nn L,mB nn nt F,bT nn B)∧(∀i,f i=true↔Nul nt ps i)∧ByOK nt ps ps.length B∧LeastOK nt ps L ∧ ∀i,L i≤1000:=by
 have hn100:=h.n100
 obtain ⟨_,k1,rfl⟩:=init_i (T:=T) (Ns:=Ns) (own:=own) (P:=ps.map avProd) (nt:=nt) hn100 h.t60 (rB nn fun _=>false) (rB nn fun _=>false) (bT nn fun _=>[])
 obtain ⟨_,k2,B,rfl,hB⟩:=by_i (T:=T) (Ns:=Ns) (own:=own) h (fun _=>false) (fun _=>false) (fun _ => -1) (mB nn nt fun _ _=>false)
 obtain ⟨_,k3,f,k,L,rfl,hf,hL⟩:=nulls_i (T:=T) (Ns:=Ns) (own:=own) h (mB nn nt fun _ _=>false) (bT nn B) (fun _=>false)
 obtain ⟨_,k4,F,rfl⟩:=firsts_i (T:=T) (Ns:=Ns) (own:=own) h f k L (bT nn B) (fun _ _=>false)
 refine ⟨f,k,L,F,B,ui_factsOf _ _ _ _ ?_,hf,hB,hL⟩
 have c1:capB nn 1=true:=capB_le (by omega)
 have c2:capB nn 8=true:=capB_le (by omega)
 have c3:capB nn 24=true:=capB_le (by omega)
 have le:decide ((nn:Int)≤(nn:Int))=true:=by simp
 have r1:List.replicate nn (AVal.bool false)=rB nn fun _=>false:=tbl_rep _ _
 have r2:List.replicate nn (AVal.int .i64 0)=rI nn fun _=>0:=tbl_rep _ _
 have r3:List.replicate nn (AVal.own 1 [])=bT nn fun _=>[]:=tbl_rep _ _
 simp only [hT,hN,d0_true,le,Int.toNat_natCast,c1,c2,c3,Bool.and_self,cond_true,r1,r2,r3,rI_len,k1,Option.bind_some,List.length_map,k2,k3,k4]
end
end Go.Proofs.Ytgoaegbddpmiiaa
