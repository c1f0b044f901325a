/- Shortest: both sides spell the same words; the law; no condition. -/
import Derived.Test.YtgoaegbddpmiiaaFg
namespace Go.Proofs.Ytgoaegbddpmiiaa
open Go.VK AVal
structure WI (nt:Nat) (L:Nat→Int) (H:Nat→Bool) (W:Nat→List Int):Prop where
 len : ∀i,H i=true→((W i).length:Int)=L i
 dg : ∀i,H i=true→dig nt (W i)
 no : ∀i,H i=false→W i=[]
def goW (nt:Nat) (L:Nat→Int) (p:ProdD) (H:Nat→Bool) (W:Nat→List Int):Bool:=
 decide (0≤L (sy nt p.1))&&(decide (L (sy nt p.1)≤200)&&(decide (sumL nt L p.2.1=L (sy nt p.1))&&(known nt H p.2.1&&(!H (sy nt p.1)||lexLt (spell nt W p.2.1) (W (sy nt p.1))))))
abbrev SW:=Bool×(Nat→Bool)×(Nat→List Int)
def stW (nt:Nat) (L:Nat→Int) (p:ProdD) (s:SW):SW:=
 if goW nt L p s.2.1 s.2.2 then (true,upd s.2.1 (sy nt p.1) true,upd s.2.2 (sy nt p.1) (spell nt s.2.2 p.2.1)) else s
def muW (nt nn:Nat) (L:Nat→Int) (H:Nat→Bool) (W:Nat→List Int):Nat:=sumF nn fun i=>if H i then code nt (W i) else nt ^ (L i).toNat
section
variable {nt nn:Nat} {ps:List ProdD} {T Ns:List AVal} {own:Int} {L:Nat→Int}
theorem spell_ok (h:RB nt nn ps) {p:ProdD} (hp:p∈ps) {H:Nat→Bool} {W:Nat→List Int} (hw:WI nt L H W) (h0:0≤L (sy nt p.1)) (h2:L (sy nt p.1)≤200) (hs:sumL nt L p.2.1=L (sy nt p.1)) (hk:known nt H p.2.1=true) :
 ((spell nt W p.2.1).length:Int)=L (sy nt p.1)∧dig nt (spell nt W p.2.1):=by
 refine ⟨?_,spell_dig hw.dg (fun s hs=>(h.rs p hp s hs).1) hk⟩
 rw [spell_len hw.len hk]
 obtain ⟨_,q⟩:=sumL_nn (nt:=nt) (L:=L) (l:=p.2.1) (by omega)
 omega
theorem stW_ok (h:RB nt nn ps) {p:ProdD} (hp:p∈ps) {s:SW} (hw:WI nt L s.2.1 s.2.2):WI nt L (stW nt L p s).2.1 (stW nt L p s).2.2∧(goW nt L p s.2.1 s.2.2=true→muW nt nn L (stW nt L p s).2.1 (stW nt L p s).2.2<muW nt nn L s.2.1 s.2.2):=by
 obtain ⟨b,H,W⟩:=s
 simp only at hw ⊢
 unfold stW
 simp only
 cases hg:goW nt L p H W with
 | false=>
   rw [if_neg (by simp)]
   exact ⟨hw,fun q=>by cases q⟩
 | true=>
   rw [if_pos rfl]
   simp only [goW,Bool.and_eq_true,decide_eq_true_eq,Bool.or_eq_true,Bool.not_eq_true'] at hg
   obtain ⟨g1,g2,g3,g4,g5⟩:=hg
   obtain ⟨k1,k2⟩:=spell_ok h hp hw g1 g2 g3 g4
   show WI nt L (upd H (sy nt p.1) true) (upd W (sy nt p.1) (spell nt W p.2.1))∧(true=true→muW nt nn L (upd H (sy nt p.1) true) (upd W (sy nt p.1) (spell nt W p.2.1))<muW nt nn L H W)
   refine ⟨⟨fun i hi => ?_,fun i hi => ?_,fun i hi => ?_⟩,fun _ => ?_⟩
   · by_cases e:i=sy nt p.1
     · subst e;rw [upd_at];exact k1
     · rw [upd_ne _ _ e] at hi ⊢;exact hw.len i hi
   · by_cases e:i=sy nt p.1
     · subst e;rw [upd_at];exact k2
     · rw [upd_ne _ _ e] at hi ⊢;exact hw.dg i hi
   · by_cases e:i=sy nt p.1
     · subst e;rw [upd_at] at hi;cases hi
     · rw [upd_ne _ _ e] at hi ⊢;exact hw.no i hi
   · refine sumF_lt (i:=sy nt p.1) ?_ (fun j hj => ?_) nn (h.sy_lt hp)
     · simp only [upd_at,if_true]
       cases hh:H (sy nt p.1) with
       | false=>
         simp only [Bool.false_eq_true,if_false]
         have:=code_lt k2
         have e:(spell nt W p.2.1).length=(L (sy nt p.1)).toNat:=by omega
         rw [e] at this;exact this
       | true=>
         simp only [if_true]
         have hl:=hw.len _ hh
         refine code_lex k2 (hw.dg _ hh) (by omega) (g5.resolve_left (by rw [hh];simp))
     · simp only [upd_ne _ _ hj]
def rnd (nt:Nat) (L:Nat→Int) (ps:List ProdD) (s:SW):SW:=(List.range' 0 ps.length).foldl (fun s i=>stW nt L (ps.getD i pD) s) s
theorem rnd_ok (h:RB nt nn ps) {H:Nat→Bool} {W:Nat→List Int} (hw:WI nt L H W):WI nt L (rnd nt L ps (false,H,W)).2.1 (rnd nt L ps (false,H,W)).2.2∧((rnd nt L ps (false,H,W)).1=true→muW nt nn L (rnd nt L ps (false,H,W)).2.1 (rnd nt L ps (false,H,W)).2.2<muW nt nn L H W):=by
 have key : ∀(l:List Nat) (s:SW),(∀i∈l,i<ps.length)→WI nt L s.2.1 s.2.2→muW nt nn L s.2.1 s.2.2≤muW nt nn L H W→(s.1=true→muW nt nn L s.2.1 s.2.2<muW nt nn L H W) →
  WI nt L (l.foldl (fun s i=>stW nt L (ps.getD i pD) s) s).2.1 (l.foldl (fun s i=>stW nt L (ps.getD i pD) s) s).2.2∧((l.foldl (fun s i=>stW nt L (ps.getD i pD) s) s).1=true→muW nt nn L (l.foldl (fun s i=>stW nt L (ps.getD i pD) s) s).2.1 (l.foldl (fun s i=>stW nt L (ps.getD i pD) s) s).2.2<muW nt nn L H W):=by
  intro l
  induction l with
  | nil=>intro s _ h1 _ h3;exact ⟨h1,h3⟩
  | cons i l ih=>
    intro s hi h1 h2 h3
    obtain ⟨k1,k2⟩:=stW_ok h (getD_mem pD (hi i (by simp))) h1
    simp only [List.foldl_cons]
    refine ih _ (fun j hj=>hi j (by simp [hj])) k1 ?_ fun hb => ?_
    · cases hg:goW nt L (ps.getD i pD) s.2.1 s.2.2 with
      | true=>exact Nat.le_of_lt (Nat.lt_of_lt_of_le (k2 hg) h2)
      | false=>unfold stW;rw [hg,if_neg (by simp)];exact h2
    · cases hg:goW nt L (ps.getD i pD) s.2.1 s.2.2 with
      | true=>exact Nat.lt_of_lt_of_le (k2 hg) h2
      | false=>
        unfold stW at hb ⊢
        rw [hg,if_neg (by simp)] at hb ⊢
        exact h3 hb
 exact key _ _ (fun i hi=>by have:i<ps.length:=by simpa using hi
                             exact this) hw (Nat.le_refl _) (fun q=>by simp at q)
theorem known_len {H:Nat→Bool} {W:Nat→List Int} (hw:WI nt L H W) (hL : ∀i,L i≤1000) {l:List Int} {k:Nat} (hk:k<l.length) (hb:(spell nt W (l.take k)).length≤1000*k) (h2:known nt H (l.take (k+1))=true):(spell nt W (l.take (k+1))).length≤1000*(k+1):=by
 rw [known_take hk,Bool.and_eq_true,Bool.or_eq_true,decide_eq_true_eq] at h2
 rw [spell_take hk,List.length_append]
 by_cases hv:l.getD k 0<(nt:Int)
 · rw [if_pos hv];simp only [List.length_cons,List.length_nil];omega
 · rw [if_neg hv]
   have:=hw.len _ (h2.2.resolve_left hv)
   have:=hL (sy nt (l.getD k 0))
   omega
theorem spell_s (hT:T.length=nt) (h60:nt≤60) (hn:nn≤100) (P:List AVal) (hL : ∀i,L i≤1000) {H:Nat→Bool} {W:Nat→List Int} (hw:WI nt L H W) (l:List Int) (hl:l.length≤12) (hs : ∀s∈l,0≤s∧s<(nt:Int)+nn) (z:Int) :
 Fs_l04Spell T Ns own P (rI nn L) (tbl nn fun i=>.ro false 1 ((W i).map iv)) (rB nn H) (l.map iv) z=some (bif decide (0≤z)&&(decide (z≤200)&&(decide (sumL nt L l=z)&&known nt H l)) then ((spell nt W l).map iv,true) else ([],false)):=by
 refine us_l04Spell _ _ _ _ _ _ _ _ _ ?_
 obtain ⟨t,e1,e2⟩:=loop_ex (fun k (_:Unit)=>Ls_l04Spell_0 (tbl nn fun i=>.ro false 1 ((W i).map iv)) (rB nn H) (l.map iv) (k:Int) T Ns own P ((spell nt W (l.take k)).map iv)) l.length (fun k _=>known nt H (l.take k)=true∧(spell nt W (l.take k)).length≤1000*k)
  (fun t=>(t=.inl (false,[])∧known nt H l=false)∨(t=.inr ((spell nt W l).map iv)∧known nt H l=true)) (fun s hi=>⟨_,ls_l04Spell_0 _ _ _ _ _ _ _ _ _ (by simp only [List.length_map,lt_self,cond_false] <;> rfl),.inr ⟨by rw [List.take_length],by have:=hi.1;rwa [List.take_length] at this⟩⟩) (fun k hk s hi=>by
    have hm:=hs _ (getD_in hk)
    have w:IntKind.wrap .i64 ((k:Int)+1)=((k+1:Nat):Int):=wrap_i (by omega)
    have nk:=non_s (own:=own) (Ns:=Ns) hT h60 P hm.1 (by omega)
    have st:=spell_take (nt:=nt) (W:=W) hk
    have kt:=known_take (nt:=nt) (H:=H) hk
    by_cases hv:l.getD k 0<(nt:Int)
    · have d1:decide (l.getD k 0-(nt:Int)<0)=true:=decide_eq_true (by omega)
      have kn:known nt H (l.take (k+1))=true:=by rw [kt,hi.1,decide_eq_true hv];rfl
      have cc:capB ((spell nt W (l.take k)).length+1) 8=true:=capB_le (by have:=hi.2;omega)
      rw [if_pos hv] at st
      have em:(spell nt W (l.take k)).map iv++[AVal.int .i64 (l.getD k 0)]=(spell nt W (l.take (k+1))).map iv:=by rw [st];simp [iv]
      refine .inr ⟨(),⟨kn,known_len hw hL hk hi.2 kn⟩,fun y hy=>ls_l04Spell_0 _ _ _ _ _ _ _ _ _ ?_⟩
      rw [←hy]
      simp only [List.length_map,lt_true hk,d0_true,Bool.and_self,cond_true,Int.toNat_natCast,getD_map' iv 0 hk,e_int,e_toInt,nk,Option.bind_some,d1,cc,em,w]
    · have e1:l.getD k 0-(nt:Int)=((sy nt (l.getD k 0):Nat):Int):=by unfold sy;omega
      have e2:sy nt (l.getD k 0)<nn:=by unfold sy;omega
      have d1:decide (((sy nt (l.getD k 0):Nat):Int)<0)=false:=decide_eq_false (by omega)
      rw [e1] at nk
      cases hh:H (sy nt (l.getD k 0)) with
      | false=>
        refine .inl ⟨_,ls_l04Spell_0 _ _ _ _ _ _ _ _ _ ?_,.inl ⟨rfl,known_no hk hv hh⟩⟩
        simp only [List.length_map,lt_true hk,d0_true,Bool.and_self,cond_true,cond_false,Int.toNat_natCast,getD_map' iv 0 hk,e_int,e_toInt,nk,Option.bind_some,d1,rB_len,lt_true e2,rB_get _ e2,sh_bool,to_bool,hh,Bool.not_false]
      | true=>
        have kn:known nt H (l.take (k+1))=true:=by rw [kt,hi.1,hh,Bool.or_true];rfl
        have hlen:=known_len hw hL hk hi.2 kn
        rw [if_neg hv] at st
        have cc:capB ((spell nt W (l.take k)).length+(W (sy nt (l.getD k 0))).length) 8=true:=capB_le (by rw [st,List.length_append] at hlen;omega)
        have em:(spell nt W (l.take k)).map iv++(W (sy nt (l.getD k 0))).map iv=(spell nt W (l.take (k+1))).map iv:=by rw [st];simp
        refine .inr ⟨(),⟨kn,hlen⟩,fun y hy=>ls_l04Spell_0 _ _ _ _ _ _ _ _ _ ?_⟩
        rw [←hy]
        simp only [List.length_map,lt_true hk,d0_true,Bool.and_self,cond_true,cond_false,Int.toNat_natCast,getD_map' iv 0 hk,e_int,e_toInt,nk,Option.bind_some,d1,rB_len,lt_true e2,rB_get _ e2,sh_bool,to_bool,hh,Bool.not_true,tbl_len,tbl_get _ e2,sh_ro,el_ro,cc,em,w]) l.length 0 (by omega) () ⟨rfl,by simp [spell]⟩
 have e0:(spell nt W (l.take 0)).map iv=[]:=rfl
 simp only [Int.natCast_zero,e0] at e1
 have sm:=sum_s (own:=own) (Ns:=Ns) hT h60 hn P L hL l hl hs
 by_cases g0:z<0
 · have g0' : ¬0≤z:=by omega
   simp only [g0,g0',decide_true,decide_false,cond_true,Bool.false_and,cond_false]
 by_cases g1:200<z
 · have g1' : ¬z≤200:=by omega
   simp only [g0,g1,g1',decide_true,decide_false,cond_true,cond_false,Bool.false_and,Bool.and_false]
 have g0':0≤z:=by omega
 have g1':z≤200:=by omega
 simp only [g0,g1,g0',g1',decide_true,decide_false,cond_false,Bool.true_and,sm,Option.bind_some]
 by_cases g2:sumL nt L l=z
 · simp only [g2,decide_true,Bool.not_true,cond_false,Bool.true_and,e1,Option.bind_some]
   rcases e2 with ⟨rfl,e2⟩|⟨rfl,e2⟩
   · rw [e2];rfl
   · rw [e2];rfl
 · simp only [g2,decide_false,Bool.not_false,cond_true,Bool.false_and,cond_false]
theorem round_ss (h:RB nt nn ps) (hT:T.length=nt) (hL : ∀i,-1≤L i∧L i≤1000) (x0:Int) {H:Nat→Bool} {W:Nat→List Int} (hw:WI nt L H W) :
 Ls_Shortest_1 x0 (rI nn L) false 0 T Ns own (ps.map avProd) (bT nn W) (rB nn H)=some (x0,rI nn L,(rnd nt L ps (false,H,W)).1,T,Ns,own,ps.map avProd,bT nn (rnd nt L ps (false,H,W)).2.2,rB nn (rnd nt L ps (false,H,W)).2.1):=by
 have hp120:=h.p120
 have h60:=h.t60
 have hn100:=h.n100
 refine loop_run (fun i (s:SW)=>Ls_Shortest_1 x0 (rI nn L) s.1 (i:Int) T Ns own (ps.map avProd) (bT nn s.2.2) (rB nn s.2.1)) ps.length (fun i s=>stW nt L (ps.getD i pD) s) (fun s=>(x0,rI nn L,s.1,T,Ns,own,ps.map avProd,bT nn s.2.2,rB nn s.2.1)) (fun _ s=>WI nt L s.2.1 s.2.2)
  (fun s hs=>ls_Shortest_1 _ _ _ _ _ _ _ _ _ _ (by simp only [List.length_map,lt_self,cond_false])) (fun i hi s hs y hy => ?_) (fun i hi s hs=>(stW_ok h (getD_mem pD hi) hs).1) ps.length 0 (by omega) (false,H,W) hw
 obtain ⟨b,H,W⟩:=s
 simp only at hs hy ⊢
 have hm:ps.getD i pD∈ps:=getD_mem pD hi
 have w:IntKind.wrap .i64 ((i:Int)+1)=((i+1:Nat):Int):=wrap_i (by omega)
 have hgd:=getD_map' avProd pD hi
 generalize hq:ps.getD i pD=p at hm hgd hy
 have hlf:=h.lf p hm
 have hsl:=h.sy_lt hm
 have e1:p.1-(nt:Int)=((sy nt p.1:Nat):Int):=by unfold sy;omega
 have nl:=non_s (own:=own) (Ns:=Ns) hT h60 (ps.map avProd) (show 0≤p.1 by omega) (by omega)
 rw [e1] at nl
 have sp:=spell_s (own:=own) (Ns:=Ns) hT h60 hn100 (ps.map avProd) (fun i=>(hL i).2) hs p.2.1 (h.rl p hm) (h.rs p hm) (L (sy nt p.1))
 refine ls_Shortest_1 _ _ _ _ _ _ _ _ _ _ ?_
 rw [←hy]
 unfold stW goW
 simp only [List.length_map,lt_true hi,d0_true,Bool.and_self,cond_true,Int.toNat_natCast,hgd,p0_Prod,c0_Prod,p1_Prod,c1_Prod,nl,Option.bind_some,rI_len,lt_true hsl,rI_get _ hsl,sh_int,to_int,bT_ro,rB_ro,sp]
 cases hok:(decide (0≤L (sy nt p.1))&&(decide (L (sy nt p.1)≤200)&&(decide (sumL nt L p.2.1=L (sy nt p.1))&&known nt H p.2.1))) with
 | false=>
   have hno:(decide (0≤L (sy nt p.1))&&(decide (L (sy nt p.1)≤200)&&(decide (sumL nt L p.2.1=L (sy nt p.1))&&(known nt H p.2.1&&(!H (sy nt p.1)||lexLt (spell nt W p.2.1) (W (sy nt p.1)))))))=false:=by
    rw [Bool.eq_false_iff] at hok ⊢
    intro q;apply hok
    simp only [Bool.and_eq_true] at q ⊢
    exact ⟨q.1,q.2.1,q.2.2.1,q.2.2.2.1⟩
   have n0:noRoL ([]:List AVal)=true:=rfl
   rw [hno]
   simp only [cond_false,n0,Bool.and_self,cond_true,w,Bool.false_eq_true,if_false]
 | true=>
   have nr:noRoL ((spell nt W p.2.1).map iv)=true:=noRoL_map noRo_iv _
   simp only [Bool.and_eq_true,decide_eq_true_eq] at hok
   obtain ⟨q1,q2,q3,q4⟩:=hok
   obtain ⟨k1,k2⟩:=spell_ok h hm hs q1 q2 q3 q4
   simp only [q1,q2,q3,q4,decide_true,Bool.true_and,cond_true,nr,Bool.and_self,rB_len,lt_true hsl,blt_true hsl,rB_get _ hsl,sh_bool,to_bool]
   cases hh:H (sy nt p.1) with
   | false=>
     simp only [Bool.not_false,cond_true,bT_len,lt_true hsl,blt_true hsl,Bool.and_self,bT_get _ hsl,ag_own,ag_bool,bT_set,rB_set,w,Bool.true_or,if_true]
   | true=>
     have hlw:=hs.len _ hh
     obtain ⟨r,c1,c2⟩:=cmp_s (a:=spell nt W p.2.1) (b:=W (sy nt p.1)) (by omega) (by omega) k2 (hs.dg _ hh) h60
     have ro1:asRo (.own 1 ((W (sy nt p.1)).map iv))=.ro false 1 ((W (sy nt p.1)).map iv):=by simp only [asRo,asRoL_map asRo_iv]
     have sq:slQ (.own 1 ((W (sy nt p.1)).map iv))=true:=rfl
     have sr:CT.shro (.slice 1) (.ro false 1 ((W (sy nt p.1)).map iv))=true:=rfl
     simp only [Bool.not_true,cond_false,bT_len,lt_true hsl,blt_true hsl,Bool.and_self,cond_true,bT_get _ hsl,sh_own,sq,ro1,sr,el_ro,asRoL_map asRo_iv,c1,Option.bind_some,c2,Bool.false_or]
     cases lexLt (spell nt W p.2.1) (W (sy nt p.1)) with
     | true=>simp only [cond_true,ag_own,ag_bool,Bool.not_false,Bool.and_self,bT_set,rB_set,w,if_true]
     | false=>simp only [cond_false,w,Bool.false_eq_true,if_false]
end
end Go.Proofs.Ytgoaegbddpmiiaa
