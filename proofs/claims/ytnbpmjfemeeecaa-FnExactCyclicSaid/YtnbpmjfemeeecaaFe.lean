/- Cyclic: what the program computes, and the law; no condition. -/
import Derived.Test.YtnbpmjfemeeecaaFd
namespace Go.Proofs.Ytnbpmjfemeeecaa
open Go.VK AVal
section
variable {nt nn:Nat} {ps:List ProdD} {T Ns:List AVal} {own:Int} {b c d:List AVal}
theorem bT_ro (n:Nat) (B:Nat→List Int):asRoL (bT n B)=tbl n fun i=>.ro false 1 ((B i).map iv):=by
 unfold bT
 rw [tbl_ro]
 exact tbl_congr fun i _=>by simp only [asRo,asRoL_map asRo_iv]
def AtP (nt:Nat) (f:Nat→Bool) (p:ProdD) (k x:Nat):Prop:=
 (nt:Int)≤p.2.1.getD k 0∧sy nt (p.2.1.getD k 0)=x∧nuB nt f (p.2.1.take k)=true∧nuB nt f (p.2.1.drop (k+1))=true
theorem bes1_i (h:RB nt nn ps) (f:Nat→Bool) (e X:List AVal) (xl xj:Int) {p:ProdD} (hp:p∈ps) (A0:List Int) (hA:A0.length≤100000) :
 ∃t,Li_facts_besideStep_1 (fV T Ns own (ps.map avProd) nt nn (rB nn f) b c d e) (p.2.1.map iv) X xl xj (p.2.1.map iv) (p.2.1.length:Int) 0 (A0.map iv)=some t ∧ ∃A:List Int,t=(fV T Ns own (ps.map avProd) nt nn (rB nn f) b c d e,X,xl,xj,A.map iv) ∧
  A.length≤A0.length+p.2.1.length ∧ ∀v,v∈A↔v∈A0 ∨ ∃k,k<p.2.1.length ∧ ∃x:Nat,v=(x:Int)∧AtP nt f p k x:=by
 have h60:=h.t60
 have hn100:=h.n100
 have hrl:=h.rl _ hp
 have hrs:=h.rs _ hp
 refine loop_inv (fun k (A:List Int)=>Li_facts_besideStep_1 (fV T Ns own (ps.map avProd) nt nn (rB nn f) b c d e) (p.2.1.map iv) X xl xj (p.2.1.map iv) (p.2.1.length:Int) (k:Int) (A.map iv)) p.2.1.length (fun k A=>A.length≤A0.length+k ∧ ∀v,v∈A↔v∈A0 ∨ ∃k',k'<k ∧ ∃x:Nat,v=(x:Int)∧AtP nt f p k' x)
  _ (fun A hA=>⟨_,li_facts_besideStep_1 _ _ _ _ _ _ _ _ _ (by simp only [lt_self,cond_false] <;> rfl),A,rfl,hA.1,hA.2⟩) (fun k hk A hI => ?_) p.2.1.length 0 (by omega) A0 ⟨Nat.le_refl _,fun v=>by simp⟩
 have hsk:=hrs _ (getD_in hk)
 have w:IntKind.wrap .i64 ((k:Int)+1)=((k+1:Nat):Int):=wrap_i (by omega)
 have a1:=nall_i (T:=T) (Ns:=Ns) (own:=own) (P:=ps.map avProd) (b:=b) (c:=c) (d:=d) (e:=e) h60 hn100 f (p.2.1.take k) (by rw [List.length_take];omega) (fun s hs=>hrs s (List.mem_of_mem_take hs))
 have a2:=nall_i (T:=T) (Ns:=Ns) (own:=own) (P:=ps.map avProd) (b:=b) (c:=c) (d:=d) (e:=e) h60 hn100 f (p.2.1.drop (k+1)) (by rw [List.length_drop];omega) (fun s hs=>hrs s (List.mem_of_mem_drop hs))
 have l1:decide ((k:Int)≤(p.2.1.length:Int))=true:=decide_eq_true (by omega)
 have l2:decide (((k+1:Nat):Int)≤(p.2.1.length:Int))=true:=decide_eq_true (by omega)
 have ln:(p.2.1.map iv).length=p.2.1.length:=List.length_map _
 have dm:=drop_map_iv p.2.1 (k+1)
 rw [ln] at dm
 have cc:capB (A.length+1) 8=true:=capB_le (by omega)
 have base : ∀y,(bif decide ((nt:Int)≤p.2.1.getD k 0)&&(nuB nt f (p.2.1.take k)&&nuB nt f (p.2.1.drop (k+1))) then Li_facts_besideStep_1 (fV T Ns own (ps.map avProd) nt nn (rB nn f) b c d e) (p.2.1.map iv) X xl xj (p.2.1.map iv) (p.2.1.length:Int) ((k+1:Nat):Int) ((A++[((sy nt (p.2.1.getD k 0):Nat):Int)]).map iv) else Li_facts_besideStep_1 (fV T Ns own (ps.map avProd) nt nn (rB nn f) b c d e) (p.2.1.map iv) X xl xj (p.2.1.map iv) (p.2.1.length:Int) ((k+1:Nat):Int) (A.map iv))=some y →
  Li_facts_besideStep_1 (fV T Ns own (ps.map avProd) nt nn (rB nn f) b c d e) (p.2.1.map iv) X xl xj (p.2.1.map iv) (p.2.1.length:Int) (k:Int) (A.map iv)=some y:=by
  intro y hy
  refine li_facts_besideStep_1 _ _ _ _ _ _ _ _ _ ?_
  rw [←hy]
  by_cases hv:(nt:Int)≤p.2.1.getD k 0
  · have e1:=sy_eq hv h60 (by omega)
    have ei:A.map iv++[AVal.int .i64 ((sy nt (p.2.1.getD k 0):Nat):Int)]=(A++[((sy nt (p.2.1.getD k 0):Nat):Int)]).map iv:=by simp [iv]
    simp only [ln,lt_true hk,d0_true,Bool.and_self,cond_true,Int.toNat_natCast,getD_map' iv 0 hk,e_int,e_toInt,fV4,sh_int,to_int,hv,decide_true,l1,take_map_iv,a1,Option.bind_some,w,l2,dm,a2,Bool.true_and,List.length_map,cc,e1,ei,Bnd]
    cases nuB nt f (p.2.1.take k) <;> cases nuB nt f (p.2.1.drop (k+1)) <;> rfl
  · simp only [ln,lt_true hk,d0_true,Bool.and_self,cond_true,Int.toNat_natCast,getD_map' iv 0 hk,e_int,e_toInt,fV4,sh_int,to_int,hv,decide_false,cond_false,Bool.false_and,w]
 cases hc:(decide ((nt:Int)≤p.2.1.getD k 0)&&(nuB nt f (p.2.1.take k)&&nuB nt f (p.2.1.drop (k+1)))) with
 | true=>
   refine ⟨A++[((sy nt (p.2.1.getD k 0):Nat):Int)],⟨by simp only [List.length_append,List.length_cons,List.length_nil];omega,fun v => ?_⟩,fun y hy=>base y (by rw [hc];exact hy)⟩
   simp only [Bool.and_eq_true,decide_eq_true_eq] at hc
   rw [List.mem_append,hI.2 v]
   simp only [List.mem_singleton]
   refine ⟨fun q => ?_,fun q => ?_⟩
   · rcases q with (q|⟨k',k1,k2⟩)|rfl
     · exact .inl q
     · exact .inr ⟨k',by omega,k2⟩
     · exact .inr ⟨k,by omega,_,rfl,hc.1,rfl,hc.2.1,hc.2.2⟩
   · rcases q with q|⟨k',k1,x,k2,k3⟩
     · exact .inl (.inl q)
     · by_cases e2:k'=k
       · subst e2;exact .inr (by rw [k2,k3.2.1])
       · exact .inl (.inr ⟨k',by omega,x,k2,k3⟩)
 | false=>
   refine ⟨A,⟨by omega,fun v => ?_⟩,fun y hy=>base y (by rw [hc];exact hy)⟩
   rw [hI.2 v]
   refine or_congr Iff.rfl ⟨fun ⟨k',k1,k2⟩=>⟨k',by omega,k2⟩,fun ⟨k',k1,x,k2,k3⟩=>⟨k',?_,x,k2,k3⟩⟩
   by_cases e2:k'=k
   · subst e2
     obtain ⟨q1,_,q2,q3⟩:=k3
     rw [decide_eq_true q1,q2,q3] at hc
     cases hc
   · omega
theorem beside_i (h:RB nt nn ps) (f:Nat→Bool) {B:Nat→List Int} (hB:ByOK nt ps ps.length B) {i:Nat} (hi:i<nn) :
 ∃R:List Int,Fi_facts_besideStep (fV T Ns own (ps.map avProd) nt nn (rB nn f) b c d (asRoL (bT nn B))) (i:Int)=some (R.map iv)∧R.length≤1440 ∧ ∀v,v∈R ↔ ∃x:Nat,v=(x:Int)∧StB nt ps f i x:=by
 have hp120:=h.p120
 have hBl:=(hB i).1
 have hBm : ∀j,j<(B i).length → ∃q,q<ps.length∧(B i).getD j 0=((q:Nat):Int)∧sy nt (ps.getD q pD).1=i:=fun j hj=>((hB i).2 _).1 (getD_in hj)
 obtain ⟨t,e1,A,rfl,e2,e3⟩:=loop_inv (fun j (A:List Int)=>Li_facts_besideStep_0 (fV T Ns own (ps.map avProd) nt nn (rB nn f) b c d (asRoL (bT nn B))) ((B i).map iv) ((B i).length:Int) (j:Int) (A.map iv)) (B i).length
  (fun j A=>A.length≤12*j ∧ ∀v,v∈A ↔ ∃j',j'<j ∧ ∃k,k<(ps.getD ((B i).getD j' 0).toNat pD).2.1.length ∧ ∃x:Nat,v=(x:Int)∧AtP nt f (ps.getD ((B i).getD j' 0).toNat pD) k x)
  (fun t => ∃A:List Int,t=A.map iv∧A.length≤1440 ∧ ∀v,v∈A ↔ ∃j',j'<(B i).length ∧ ∃k,k<(ps.getD ((B i).getD j' 0).toNat pD).2.1.length ∧ ∃x:Nat,v=(x:Int)∧AtP nt f (ps.getD ((B i).getD j' 0).toNat pD) k x)
  (fun A hA=>⟨_,li_facts_besideStep_0 _ _ _ _ _ (by simp only [lt_self,cond_false] <;> rfl),A,rfl,by omega,hA.2⟩) (fun j hj A hI=>by
    obtain ⟨q,q1,q2,q3⟩:=hBm j hj
    have hm:ps.getD q pD∈ps:=getD_mem pD q1
    have hrl:=h.rl _ hm
    have w:IntKind.wrap .i64 ((j:Int)+1)=((j+1:Nat):Int):=wrap_i (by omega)
    obtain ⟨_,k1,A',rfl,k2,k3⟩:=bes1_i (T:=T) (Ns:=Ns) (own:=own) (b:=b) (c:=c) (d:=d) h f (asRoL (bT nn B)) ((B i).map iv) ((B i).length:Int) (j:Int) hm A (by omega)
    refine ⟨A',⟨by omega,fun v => ?_⟩,fun y hy=>li_facts_besideStep_0 _ _ _ _ _ ?_⟩
    · rw [k3 v,hI.2 v]
      refine ⟨fun z => ?_,fun ⟨j',z1,z2⟩ => ?_⟩
      · rcases z with ⟨j',z1,z2⟩|z
        · exact ⟨j',by omega,z2⟩
        · exact ⟨j,by omega,by rw [q2,Int.toNat_natCast];exact z⟩
      · by_cases e2:j'=j
        · subst e2;rw [q2,Int.toNat_natCast] at z2;exact .inr z2
        · exact .inl ⟨j',by omega,z2⟩
    · rw [←hy]
      simp only [List.length_map,lt_true hj,d0_true,Bool.and_self,cond_true,Int.toNat_natCast,getD_map' iv 0 hj,e_int,e_toInt,fV3,sh_ro,el_ro,q2,lt_true q1,getD_map' avProd pD q1,p1_Prod,c1_Prod,k1,Option.bind_some,w]) (B i).length 0 (by omega) [] ⟨Nat.le_refl _,fun v=>by simp⟩
 refine ⟨A,ui_facts_besideStep _ _ ?_,e2,fun v => ?_⟩
 · simp only [Int.natCast_zero,List.map_nil] at e1
   simp only [fV10,sh_ro,el_ro,cond_true,d0_true,bT_ro,tbl_len,lt_true hi,Bool.and_self,Int.toNat_natCast,tbl_get _ hi,List.length_map]
   rw [bT_ro] at e1
   rw [e1];rfl
 · rw [e3 v]
   refine ⟨fun ⟨j,j1,k,k1,x,x1,x2⟩ => ?_,fun ⟨x,x1,p,hp,p1,k,k1,k2⟩ => ?_⟩
   · obtain ⟨q,q1,q2,q3⟩:=hBm j j1
     rw [q2,Int.toNat_natCast] at k1 x2
     exact ⟨x,x1,_,getD_mem pD q1,q3,k,k1,x2⟩
   · obtain ⟨q,hq,rfl⟩:=List.mem_iff_getElem.1 hp
     have e:ps.getD q pD=ps[q]:=by simp [List.getD_eq_getElem?_getD,hq]
     have hmem:((q:Nat):Int)∈B i:=((hB i).2 _).2 ⟨q,hq,rfl,by rw [e];exact p1⟩
     obtain ⟨j,hj,hj2⟩:=List.mem_iff_getElem.1 hmem
     have ej:(B i).getD j 0=((q:Nat):Int):=by simp [List.getD_eq_getElem?_getD,hj,hj2]
     refine ⟨j,hj,k,?_,x,x1,?_⟩
     · rw [ej,Int.toNat_natCast,e];exact k1
     · rw [ej,Int.toNat_natCast,e];exact k2
structure Dfs (S:Nat→Nat→Prop) (nn i:Nat) (v:Nat→Bool) (l:List Int):Prop where
 snd : ∀x,v x=true→Rch S i x
 tod : ∀t∈l,∃x:Nat,t=(x:Int)∧x<nn∧Rch S i x
 st : ∀x,S i x→v x=true∨(x:Int)∈l
 cl : ∀x y,v x=true→S x y→v y=true∨(y:Int)∈l
theorem upd_upd {α:Type} (f:Nat→α) (i:Nat) (a b:α):upd (upd f i a) i b=upd f i b:=by
 funext j;unfold upd;split <;> rfl
theorem search_i (h:RB nt nn ps) (f:Nat→Bool) {B:Nat→List Int} (hB:ByOK nt ps ps.length B) (k:Nat→Bool) (L:Nat→Int) (F:List AVal) {i:Nat} (hi:i<nn) (G:Nat→AVal) (R:List Int) (hR:R.length≤1440) (hRm : ∀v,v∈R ↔ ∃x:Nat,v=(x:Int)∧StB nt ps f i x) (xc xi:Int) :
 ∃t,Li_leads_1 (nn:Int) (i:Int) xc xi T Ns own (ps.map avProd) (nt:Int) (nn:Int) (rB nn f) (rB nn k) (rI nn L) F (bT nn B) (tbl nn (upd G i (.own 1 (rB nn fun _=>false)))) (R.map iv)=some t ∧
  ∃v,t=((nn:Int),xc,xi,T,Ns,own,ps.map avProd,(nt:Int),(nn:Int),rB nn f,rB nn k,rI nn L,F,bT nn B,tbl nn (upd G i (.own 1 (rB nn v)))) ∧ ∀x,v x=true↔Rch (StB nt ps f) i x:=by
 have hn100:=h.n100
 refine loop_meas (fun (s:(Nat→Bool)×List Int)=>Li_leads_1 (nn:Int) (i:Int) xc xi T Ns own (ps.map avProd) (nt:Int) (nn:Int) (rB nn f) (rB nn k) (rI nn L) F (bT nn B) (tbl nn (upd G i (.own 1 (rB nn s.1)))) (s.2.map iv))
  (fun s=>Dfs (StB nt ps f) nn i s.1 s.2∧s.2.length+1440*offs nn s.1≤1440*(nn+1)) _ (fun s=>1441*offs nn s.1+s.2.length) (fun s hs => ?_) _ ((fun _=>false),R) (Nat.lt_succ_self _) ⟨⟨fun x hx=>by simp at hx,fun t ht => ?_,fun x hx=>.inr ((hRm _).2 ⟨x,rfl,hx⟩),fun x y hx=>by simp at hx⟩,?_⟩
 · obtain ⟨v,l⟩:=s
   obtain ⟨hd,hlen⟩:=hs
   simp only at hd hlen ⊢
   rcases List.eq_nil_or_concat l with rfl|⟨l,z,hcat⟩
   · refine .inl ⟨_,li_leads_1 _ _ _ _ _ _ _ _ _ _ _ _ _ _ _ _ _ rfl,v,rfl,fun x=>⟨hd.snd x,fun hr => ?_⟩⟩
     induction hr with
     | one h1=>exact (hd.st _ h1).elim id fun q=>by simp at q
     | more _ h2 ih=>exact (hd.cl _ _ ih h2).elim id fun q=>by simp at q
   · rw [List.concat_eq_append] at hcat
     subst hcat
     obtain ⟨x,rfl,hx,hxr⟩:=hd.tod z (by simp)
     have ll:((l++[((x:Nat):Int)]).map iv).length=l.length+1:=by simp
     have hll:(l++[((x:Nat):Int)]).length=l.length+1:=by simp
     rw [hll] at hlen
     have w:IntKind.wrap .i64 (((l.length+1:Nat):Int)-1)=((l.length:Nat):Int):=by
      rw [wrap64 (by omega) (by omega)];omega
     have z0:decide ((0:Int)<((l.length+1:Nat):Int))=true:=decide_eq_true (by omega)
     have lt1:l.length<l.length+1:=by omega
     have le1:decide ((l.length:Int)≤((l.length+1:Nat):Int))=true:=decide_eq_true (by omega)
     have g:((l++[((x:Nat):Int)]).map iv).getD l.length .und=iv x:=by simp
     have tk:((l++[((x:Nat):Int)]).map iv).take l.length=l.map iv:=by simp
     cases hv:v x with
     | true=>
       refine .inr ⟨(v,l),⟨⟨hd.snd,fun t ht=>hd.tod t (by simp [ht]),fun y hy => ?_,fun a y ha hy => ?_⟩,by simp only;omega⟩,by simp only;omega,fun y hy=>li_leads_1 _ _ _ _ _ _ _ _ _ _ _ _ _ _ _ _ _ ?_⟩
       · rcases hd.st y hy with q|q
         · exact .inl q
         · rcases List.mem_append.1 q with q|q
           · exact .inr q
           · simp only [List.mem_singleton,Int.natCast_inj] at q
             exact .inl (by rw [q];exact hv)
       · rcases hd.cl a y ha hy with q|q
         · exact .inl q
         · rcases List.mem_append.1 q with q|q
           · exact .inr q
           · simp only [List.mem_singleton,Int.natCast_inj] at q
             exact .inl (by rw [q];exact hv)
       · rw [←hy]
         simp only [ll,z0,cond_true,w,d0_true,lt_true lt1,Bool.and_self,Int.toNat_natCast,blt_true lt1,g,e_int,e_toInt,le1,tbl_len,lt_true hi,blt_true hi,tbl_get _ hi,upd_at,sh_own,el_own,rB_len,lt_true hx,own_okg,blt_true hx,own_get,rB_get _ hx,sh_bool,to_bool,hv,Bool.not_true,cond_false,tk]
     | false=>
       have ho:=offs_upd hv nn hx
       obtain ⟨R',r1,r2,r3⟩:=beside_i (T:=T) (Ns:=Ns) (own:=own) (b:=rB nn k) (c:=rI nn L) (d:=asRoL F) h f hB hx
       have nr:noRoL (R'.map iv)=true:=noRoL_map noRo_iv _
       have cc:capB (l.length+R'.length) 8=true:=capB_le (by omega)
       have hfv:AVal.agg [.ro false 3 T,.ro false 1 Ns,.int .i64 own,.ro false 5 (ps.map avProd),.int .i64 (nt:Int),.int .i64 (nn:Int),.ro false 1 (rB nn f),.ro false 1 (rB nn k),.ro false 1 (rI nn L),.ro false 1 (asRoL F),.ro false 1 (asRoL (bT nn B))]=fV T Ns own (ps.map avProd) nt nn (rB nn f) (rB nn k) (rI nn L) (asRoL F) (asRoL (bT nn B)):=rfl
       refine .inr ⟨(upd v x true,l++R'),⟨⟨fun y hy => ?_,fun t ht => ?_,fun y hy => ?_,fun a y ha hy => ?_⟩,by simp only [List.length_append];omega⟩,by simp only [List.length_append];omega,fun y hy=>li_leads_1 _ _ _ _ _ _ _ _ _ _ _ _ _ _ _ _ _ ?_⟩
       · simp only at hy
         by_cases e2:y=x
         · rw [e2];exact hxr
         · rw [upd_ne _ _ e2] at hy;exact hd.snd y hy
       · rcases List.mem_append.1 ht with q|q
         · exact hd.tod t (by simp [q])
         · obtain ⟨y,rfl,hy⟩:=(r3 t).1 q
           exact ⟨y,rfl,(StB.lt h _ _ hy).2,.more hxr hy⟩
       · rcases hd.st y hy with q|q
         · refine .inl ?_
           simp only;unfold upd;split
           · rfl
           · exact q
         · rcases List.mem_append.1 q with q|q
           · exact .inr (List.mem_append.2 (.inl q))
           · simp only [List.mem_singleton,Int.natCast_inj] at q
             exact .inl (by simp only;rw [q,upd_at])
       · simp only at ha
         by_cases e2:a=x
         · subst e2
           exact .inr (List.mem_append.2 (.inr ((r3 _).2 ⟨y,rfl,hy⟩)))
         · rw [upd_ne _ _ e2] at ha
           rcases hd.cl a y ha hy with q|q
           · refine .inl ?_
             simp only;unfold upd;split
             · rfl
             · exact q
           · rcases List.mem_append.1 q with q|q
             · exact .inr (List.mem_append.2 (.inl q))
             · simp only [List.mem_singleton,Int.natCast_inj] at q
               exact .inl (by simp only;rw [q,upd_at])
       · have em:l.map iv++R'.map iv=(l++R').map iv:=by simp
         rw [←hy]
         simp only [ll,z0,cond_true,w,d0_true,lt_true lt1,Bool.and_self,Int.toNat_natCast,blt_true lt1,g,e_int,e_toInt,le1,tbl_len,lt_true hi,blt_true hi,tbl_get _ hi,upd_at,sh_own,el_own,rB_len,lt_true hx,own_okg,own_okp,blt_true hx,own_get,rB_get _ hx,sh_bool,to_bool,ag_bool,hv,Bool.not_false,own_put,rB_set,tbl_set,upd_upd,tk,Bnd,rB_ro,rI_ro,hfv,r1,Option.bind_some,nr,List.length_map,cc,em]
 · obtain ⟨x,rfl,hx⟩:=(hRm t).1 ht
   exact ⟨x,rfl,(StB.lt h _ _ hx).2,.one hx⟩
 · have:=offs_le nn fun _=>false
   have e:1440*(nn+1)=1440*nn+1440:=by omega
   have e2:1440*offs nn (fun _=>false)≤1440*nn:=Nat.mul_le_mul_left _ this
   simp only;omega
theorem leads_i (h:RB nt nn ps) (f:Nat→Bool) {B:Nat→List Int} (hB:ByOK nt ps ps.length B) (k:Nat→Bool) (L:Nat→Int) (F:List AVal) :
 ∃G:Nat→AVal,Fi_leads (nn:Int) T Ns own (ps.map avProd) (nt:Int) (nn:Int) (rB nn f) (rB nn k) (rI nn L) F (bT nn B)=some (tbl nn G,T,Ns,own,ps.map avProd,(nt:Int),(nn:Int),rB nn f,rB nn k,rI nn L,F,bT nn B) ∧
  ∀i,i<nn → ∃v,G i=.own 1 (rB nn v) ∧ ∀x,v x=true↔Rch (StB nt ps f) i x:=by
 have hn100:=h.n100
 obtain ⟨t,e1,G,rfl,e2⟩:=loop_inv (fun i (G:Nat→AVal)=>Li_leads_0 (nn:Int) (nn:Int) (i:Int) T Ns own (ps.map avProd) (nt:Int) (nn:Int) (rB nn f) (rB nn k) (rI nn L) F (bT nn B) (tbl nn G)) nn
  (fun i G=>(∀j,aggQ (G j)=false) ∧ ∀j,j<i → ∃v,G j=.own 1 (rB nn v) ∧ ∀x,v x=true↔Rch (StB nt ps f) j x)
  (fun t => ∃G:Nat→AVal,t=(tbl nn G,T,Ns,own,ps.map avProd,(nt:Int),(nn:Int),rB nn f,rB nn k,rI nn L,F,bT nn B) ∧ ∀i,i<nn → ∃v,G i=.own 1 (rB nn v) ∧ ∀x,v x=true↔Rch (StB nt ps f) i x)
  (fun G hG=>⟨_,li_leads_0 _ _ _ _ _ _ _ _ _ _ _ _ _ _ _ (by simp only [lt_self,cond_false] <;> rfl),G,rfl,hG.2⟩) (fun i hi G hG=>by
    obtain ⟨R,r1,r2,r3⟩:=beside_i (T:=T) (Ns:=Ns) (own:=own) (b:=rB nn k) (c:=rI nn L) (d:=asRoL F) h f hB hi
    obtain ⟨_,k1,v,rfl,k2⟩:=search_i (T:=T) (Ns:=Ns) (own:=own) h f hB k L F hi G R r2 r3 (nn:Int) (i:Int)
    have hfv:AVal.agg [.ro false 3 T,.ro false 1 Ns,.int .i64 own,.ro false 5 (ps.map avProd),.int .i64 (nt:Int),.int .i64 (nn:Int),.ro false 1 (rB nn f),.ro false 1 (rB nn k),.ro false 1 (rI nn L),.ro false 1 (asRoL F),.ro false 1 (asRoL (bT nn B))]=fV T Ns own (ps.map avProd) nt nn (rB nn f) (rB nn k) (rI nn L) (asRoL F) (asRoL (bT nn B)):=rfl
    have w:IntKind.wrap .i64 ((i:Int)+1)=((i+1:Nat):Int):=wrap_i (by omega)
    have cc:capB nn 1=true:=capB_le (by omega)
    have c2:capB (0+R.length) 8=true:=capB_le (by omega)
    have le:decide ((nn:Int)≤(nn:Int))=true:=by simp
    have nr:noRoL (R.map iv)=true:=noRoL_map noRo_iv _
    have er:List.replicate nn (AVal.bool false)=rB nn fun _=>false:=tbl_rep _ _
    refine ⟨upd G i (.own 1 (rB nn v)),⟨fun j => ?_,fun j hj => ?_⟩,fun y hy=>li_leads_0 _ _ _ _ _ _ _ _ _ _ _ _ _ _ _ ?_⟩
    · unfold upd;split
      · rfl
      · exact hG.1 j
    · by_cases e:j=i
      · subst e;exact ⟨v,upd_at _ _ _,k2⟩
      · rw [upd_ne _ _ e];exact hG.2 j (by omega)
    · rw [←hy]
      simp only [lt_true hi,cond_true,d0_true,le,Int.toNat_natCast,cc,Bool.and_self,tbl_len,blt_true hi,tbl_get _ hi,hG.1 i,Bool.not_false,rB_ro,rI_ro,hfv,r1,Option.bind_some,nr,List.length_map,c2,er,tbl_set,k1,w]) nn 0 (by omega) (fun _=>.own 1 []) ⟨fun _=>rfl,fun j hj=>by omega⟩
 refine ⟨G,ui_leads _ _ _ _ _ _ _ _ _ _ _ _ ?_,e2⟩
 have c3:capB nn 24=true:=capB_le (by omega)
 have le:decide ((nn:Int)≤(nn:Int))=true:=by simp
 have er:List.replicate nn (AVal.own 1 [])=tbl nn fun _=>.own 1 []:=tbl_rep _ _
 simp only [Int.natCast_zero] at e1
 simp only [d0_true,le,Int.toNat_natCast,c3,Bool.and_self,cond_true,er,tbl_len,e1,Option.bind_some]
theorem cyc_i (h:RB nt nn ps) (hT:T.length=nt) (hN:Ns.length=nn) : ∃c f,(Fi_factsOf T Ns own (ps.map avProd)).bind (fun r2=>(Fi_facts_cyclic r2.1 r2.2.1 r2.2.2.1 r2.2.2.2.1 r2.2.2.2.2.1 r2.2.2.2.2.2.1 r2.2.2.2.2.2.2.1 r2.2.2.2.2.2.2.2.1 r2.2.2.2.2.2.2.2.2.1 r2.2.2.2.2.2.2.2.2.2.1 r2.2.2.2.2.2.2.2.2.2.2).bind fun r3=>some (r3.1,(0:Int)))=some (c,0) ∧
 (∀i,f i=true↔Nul nt ps i)∧(c=true ↔ ∃i,i<nn∧Rch (StB nt ps f) i i):=by
 have hn100:=h.n100
 obtain ⟨f,k,L,F,B,k1,hf,hB⟩:=facts_i (own:=own) h hT hN
 obtain ⟨G,k2,hG⟩:=leads_i (T:=T) (Ns:=Ns) (own:=own) h f hB k L (mB nn nt F)
 obtain ⟨t,e1,e2⟩:=loop_ex (fun i (s:Unit)=>Li_facts_cyclic_0 (nn:Int) (i:Int) (tbl nn G) T Ns own (ps.map avProd) (nt:Int) (nn:Int) (rB nn f) (rB nn k) (rI nn L) (mB nn nt F) (bT nn B)) nn (fun i _ => ∀j,j<i → ¬Rch (StB nt ps f) j j)
  (fun t=>(t=.inl (true,T,Ns,own,ps.map avProd,(nt:Int),(nn:Int),rB nn f,rB nn k,rI nn L,mB nn nt F,bT nn B) ∧ ∃i,i<nn∧Rch (StB nt ps f) i i)∨(t=.inr (T,Ns,own,ps.map avProd,(nt:Int),(nn:Int),rB nn f,rB nn k,rI nn L,mB nn nt F,bT nn B) ∧ ∀i,i<nn → ¬Rch (StB nt ps f) i i))
  (fun s hs=>⟨_,li_facts_cyclic_0 _ _ _ _ _ _ _ _ _ _ _ _ _ _ (by simp only [lt_self,cond_false] <;> rfl),.inr ⟨rfl,hs⟩⟩) (fun i hi s hs=>by
    have w:IntKind.wrap .i64 ((i:Int)+1)=((i+1:Nat):Int):=wrap_i (by omega)
    obtain ⟨v,hv,hvr⟩:=hG i hi
    cases hm:v i with
    | true=>exact .inl ⟨_,li_facts_cyclic_0 _ _ _ _ _ _ _ _ _ _ _ _ _ _ (by simp only [tbl_len,lt_true hi,d0_true,Bool.and_self,cond_true,Int.toNat_natCast,blt_true hi,tbl_get _ hi,hv,sh_own,el_own,rB_len,own_okg,own_get,rB_get _ hi,sh_bool,to_bool,hm] <;> rfl),.inl ⟨rfl,i,hi,(hvr i).1 hm⟩⟩
    | false=>
      refine .inr ⟨(),fun j hj => ?_,fun y hy=>li_facts_cyclic_0 _ _ _ _ _ _ _ _ _ _ _ _ _ _ ?_⟩
      · by_cases e:j=i
        · rw [e];intro q;rw [(hvr i).2 q] at hm;cases hm
        · exact hs j (by omega)
      · rw [←hy]
        simp only [tbl_len,lt_true hi,d0_true,Bool.and_self,cond_true,cond_false,Int.toNat_natCast,blt_true hi,tbl_get _ hi,hv,sh_own,el_own,rB_len,own_okg,own_get,rB_get _ hi,sh_bool,to_bool,hm,w]) nn 0 (by omega) () (fun j hj=>by omega)
 simp only [Int.natCast_zero] at e1
 rcases e2 with ⟨rfl,hr⟩|⟨rfl,hr⟩
 · have e3:Fi_facts_cyclic T Ns own (ps.map avProd) (nt:Int) (nn:Int) (rB nn f) (rB nn k) (rI nn L) (mB nn nt F) (bT nn B)=some (true,T,Ns,own,ps.map avProd,(nt:Int),(nn:Int),rB nn f,rB nn k,rI nn L,mB nn nt F,bT nn B):=by
    refine ui_facts_cyclic _ _ _ _ _ _ _ _ _ _ _ ?_
    simp only [k2,Option.bind_some,tbl_len,e1,Sum.elim_inl]
   refine ⟨true,f,?_,hf,⟨fun _=>hr,fun _=>rfl⟩⟩
   simp only [k1,Option.bind_some,e3]
 · have e3:Fi_facts_cyclic T Ns own (ps.map avProd) (nt:Int) (nn:Int) (rB nn f) (rB nn k) (rI nn L) (mB nn nt F) (bT nn B)=some (false,T,Ns,own,ps.map avProd,(nt:Int),(nn:Int),rB nn f,rB nn k,rI nn L,mB nn nt F,bT nn B):=by
    refine ui_facts_cyclic _ _ _ _ _ _ _ _ _ _ _ ?_
    simp only [k2,Option.bind_some,tbl_len,e1,Sum.elim_inr]
   refine ⟨false,f,?_,hf,⟨fun q=>absurd q (by simp),fun ⟨i,hi,q⟩=>absurd q (hr i hi)⟩⟩
   simp only [k1,Option.bind_some,e3]
end
theorem cyc2 (ts:List TermD) (ns:List ByteArray) (own:Int) (ps:List ProdD) : ∃c z,Fs_Cyclic (ts.map avTerm) (ns.map sv) own (ps.map avProd)=some (c,z)∧Fi_Cyclic (ts.map avTerm) (ns.map sv) own (ps.map avProd)=some (c,z):=by
 cases hq:bnfQ ts ns own ps with
 | false=>
   refine ⟨false,1,us_Cyclic _ _ _ _ ?_,ui_Cyclic _ _ _ _ ?_⟩
   · simp only [bo_spec,hq,Option.bind_some,Bool.not_false,cond_true]
   · simp only [bo_impl,hq,Option.bind_some,Bool.not_false,cond_true]
 | true=>
   have h:=rb_of hq
   obtain ⟨c,f,s1,s2,s3⟩:=cyc_s (own:=own) (T:=ts.map avTerm) (Ns:=ns.map sv) h (List.length_map _) (List.length_map _)
   obtain ⟨c',f',i1,i2,i3⟩:=cyc_i (own:=own) (T:=ts.map avTerm) (Ns:=ns.map sv) h (List.length_map _) (List.length_map _)
   have hff:f=f':=by
    funext i;rw [Bool.eq_iff_iff,s2 i,i2 i]
   have hcc:c=c':=by
    subst hff;rw [Bool.eq_iff_iff,s3,i3]
   subst hcc
   refine ⟨c,0,us_Cyclic _ _ _ _ ?_,ui_Cyclic _ _ _ _ ?_⟩
   · simp only [bo_spec,hq,Option.bind_some,Bool.not_true,cond_false,s1]
   · simp only [bo_impl,hq,Option.bind_some,Bool.not_true,cond_false]
     exact i1
theorem lawCy (ts:List TermD) (ns:List ByteArray) (own:Int) (ps:List ProdD) (h:wfBnf (ts,ns,own,ps)) :
 Fl_FnExactCyclic (ts.map avTerm) (ns.map sv) own (ps.map avProd)=some true:=by
 refine ul_FnExactCyclic _ _ _ _ ?_
 have t1:=tzBnf (ts,ns,own,ps) 1048576 h (by omega) (by omega)
 simp only at t1
 simp only [t1,Option.bind_some]
 by_cases g:szR 1048576 (szBnf (ts,ns,own,ps))<0
 · simp only [g,decide_true,cond_true]
 have z:=szR_nn g
 have z:szBnf (ts,ns,own,ps)≤1048576:=by omega
 have e1:=toBnf (ts,ns,own,ps) z
 have e2:=eqBnf (ts,ns,own,ps) z
 simp only at e1 e2
 obtain ⟨c,z,s1,s2⟩:=cyc2 ts ns own ps
 simp only [g,decide_false,cond_false,e1,e2,Option.bind_some,asRoL_map2 asRo_Term,asRoL_map2 asRo_sv,asRoL_map2 asRo_Prod,s1,s2,beq_self_eq_true,decide_true,Bool.not_true]
theorem lawCyclic : ∀xs,FitsL ctx [ty_laws_Bnf] xs → ∃k,vcall ctx k n_l_FnExactCyclic xs []=some ([.bool true],[]):=by
 intro xs h
 obtain ⟨x,r,rfl,h1,h⟩:=h.cons'
 obtain rfl:=h.nil'
 obtain ⟨⟨ts,ns,own,ps⟩,rfl,w1⟩:=fitBnf h1
 exact law_of (S:=sgl_FnExactCyclic) (a:=(ts.map avTerm,ns.map sv,own,ps.map avProd)) (lawCy ts ns own ps w1) rfl rfl
end Go.Proofs.Ytnbpmjfemeeecaa
