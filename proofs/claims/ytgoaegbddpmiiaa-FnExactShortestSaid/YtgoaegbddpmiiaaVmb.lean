/- An evaluator of the model's code on values, and the proof that it tells what the code does, part 2; no condition. -/
import Derived.Test.YtgoaegbddpmiiaaVma
import Derived.Orders
import Derived.Laws.Sem
import Derived.Laws.Cells
import Derived.ChangeKeysEq
import Derived.Lib.Strings
import Derived.DeepKeys3
import Derived.Laws.StructEq
import Derived.Laws.BytesArg
import Derived.Laws.Tables
import Derived.Great.BuildSlice
import Derived.MapKept
import Derived.Laws.MakeOwn
import Derived.Lib.ConvBytes
import Derived.Great.FillDense
import Derived.Deep.AppendSrc
namespace Go.VK
open AVal
theorem not_dead_kill {e:Eff} {b:AVal→Bool} {v:AVal} (h : ∀K,(K∈e.ka∨K∈kk e.ki∨K∈e.kr)→K∉v.keys):anyDead e.dead (killV b v)=false:=
 anyDead_kill v (not_dead h)
theorem lk_like_env {s s':St} {M:List Nat} {dst:Option Nat} {e:Eff} (h:(s.join M dst e).like s') (t:Nat):lk s'.env t=if dst=some t∧e.v.isSome=true then e.v else (lk s.env t).map (killV e.dead):=by
 rw [h.1,lk_join_env]
theorem lk_like_objs {s s':St} {M:List Nat} {dst:Option Nat} {e:Eff} (h:(s.join M dst e).like s') (heo : ∀K o,lk e.objs K=some o→K∈M) (K:Nat):lk s'.objs K=if K∈M then (lk e.objs K).map (fun o=>{ o with c:=killV e.dead o.c }) else (lk s.objs K).map (fun o=>{ o with c:=killV e.dead o.c }):=by
 rw [h.2,lk_join_objs heo]
theorem map_map_kill {b c:AVal→Bool} {x:Option VObj}:(x.map fun o=>{ o with c:=killV b o.c }).map (fun o=>{ o with c:=killV c o.c })=x.map fun o=>{ o with c:=killV c (killV b o.c) }:=by
 cases x <;> rfl
theorem swap {ops:Array Oper} {fx fy:St→Option (St×Done)} {s s1 s2:St} {dx dy:Done} (hx:Stp fx (looks ops dx.i) (dstOf ops dx.i) s dx s1) (hy:Stp fy (looks ops dy.i) (dstOf ops dy.i) s1 dy s2) (hf:freeOk ops dx dy=true) :
 ∃t1 t2 dy',fy s=some (t1,dy')∧(dy'.i=dy.i∧dy'.calm=dy.calm∧dy'.made=dy.made∧dy'.ment=dy.ment∧dy'.more=dy.more)∧fx t1=some (t2,dx)∧s2.like t2:=by
 obtain ⟨Mx,sx,ex,Ex,trx⟩:=hx.ex
 obtain ⟨My,sy,ey,Ey,try_⟩:=hy.ex
 obtain ⟨hd1,hd2,hd3,hit,hap,hv1,hv2,hr1,hr2⟩:=freeOk_iff hf
 have hitx:=Ex.hit hit
 have kx : ∀K,(K∈ex.ka∨K∈kk ex.ki∨K∈ex.kr)→K∉dy.ment:=by
  intro K hK hm
  rcases hap with ⟨hcx,hcy,ha,hb⟩|ha
  · exact ha K ((Ex.calm hcx).2 K hK) hm
  · exact ha K (Ex.mm K (Ex.ks K hK)) hm
 have ky : ∀K,(K∈ey.ka∨K∈kk ey.ki∨K∈ey.kr)→K∉dx.ment:=by
  intro K hK hm
  rcases hap with ⟨hcx,hcy,ha,hb⟩|ha
  · exact hb K ((Ey.calm hcy).2 K hK) hm
  · exact ha K hm (Ey.mm K (Ey.ks K hK))
 have D1 : ∀v:AVal,(∀J∈v.keys,J∈dy.ment)→anyDead ex.dead v=false:=fun v hv=>not_dead fun K hK h=>kx K hK (hv K h)
 have D2 : ∀v:AVal,(∀J∈v.keys,J∈dx.ment)→anyDead ey.dead v=false:=fun v hv=>not_dead fun K hK h=>ky K hK (hv K h)
 have D1' : ∀v:AVal,((∀J∈v.keys,J∈dy.ment)∨v∈dy.more.vals)→anyDead ex.dead v=false:=fun v hv=>hv.elim (D1 v) fun hm=>by
  have:=List.all_eq_true.1 hv2 v hm
  obtain ⟨h1,h2,h3⟩:=Ex.dk
  simpa [Eff.dead,h1,h2,h3] using this
 have D2' : ∀v:AVal,((∀J∈v.keys,J∈dx.ment)∨v∈dx.more.vals)→anyDead ey.dead v=false:=fun v hv=>hv.elim (D2 v) fun hm=>by
  have:=List.all_eq_true.1 hv1 v hm
  obtain ⟨h1,h2,h3⟩:=Ey.dk
  simpa [Eff.dead,h1,h2,h3] using this
 have X1 : ∀K,K∈dy.ment→K∈Mx→dx.calm=true∧K∉dx.made∧K∈sx∧lk ex.objs K=lk s.objs K:=by
  intro K hm hM
  rcases hap with ⟨hcx,hcy,ha,hb⟩|ha
  · have h1:K∉dx.made:=fun h=>ha K h hm
    have:=(Ex.calm hcx).1 K h1 hM
    exact ⟨hcx,h1,this.1,this.2⟩
  · exact absurd hm (ha K (Ex.mm K hM))
 have O1 : ∀K,K∈dy.ment→lk s1.objs K=lk s.objs K:=by
  intro K hm
  rw [lk_like_objs Ex.like Ex.eo]
  by_cases hM:K∈Mx
  · obtain ⟨hcx,_,_,he⟩:=X1 K hm hM
    rw [if_pos hM,he]
    exact map_kill_id fun o ho=>hitx K o ho (.inl (Ex.cc hcx))
  · rw [if_neg hM]
    exact map_kill_id fun o ho=>hitx K o ho (.inr hM)
 have E1 : ∀x∈looks ops dy.i,lk s1.env x=(lk s.env x).map (killV ex.dead):=by
  intro x hx
  rw [lk_like_env Ex.like,if_neg]
  rintro ⟨h1,_⟩;exact hd1 x h1 hx
 have R1 : ∀r∈dy.more.rd,rdv s.objs r.1 r.2=rdv s1.objs r.1 r.2:=by
  intro r hr
  obtain ⟨u,hu,hu1,hu2⟩:=Ey.rr r hr
  rw [hu]
  have hq:=List.all_eq_true.1 hr2 r hr
  have hl:=lk_like_objs Ex.like Ex.eo r.1
  by_cases hM:r.1∈Mx
  · rw [if_pos hM] at hl
    have h1:rdv ex.objs r.1 r.2=some u:=rdv_kill hl r.2 (fun z hz=>by rw [hu] at hz;obtain rfl:=Option.some.inj hz;exact hu2) u hu
    rw [←h1]
    simp only [Bool.or_eq_true,Bool.and_eq_true,Bool.not_eq_true'] at hq
    rcases hq with hq|⟨hc,hmd⟩|hq
    · exact absurd (Ex.mm _ hM) (mem_false.1 hq)
    · exact rdv_congr ((Ex.calm hc).1 r.1 (mem_false.1 hmd) hM).2.symm _
    · split at hq
      · rename_i l hl';exact (Ex.wr l hl' r hq hM).symm
      · simp at hq
  · rw [if_neg hM] at hl
    exact rdv_kill hl r.2 (fun z hz=>by rw [hu] at hz;obtain rfl:=Option.some.inj hz;exact hu2) u hu
 obtain ⟨t1,dy',hy1,hy2,hy3,hy4,hy5,hy6,Ey1,_⟩:=try_ s ex.dead D1' R1 (.inr ⟨E1,fun K hK=>O1 K (Ey.mm K (Ey.sn K hK))⟩) (fun K hK=>by rw [←O1 K (Ey.md K hK)];exact Ey.fresh K hK)
 have hcy':dy'.calm=dy.calm:=hy3
 have Y1 : ∀K,K∈dx.ment→K∈My→lk ey.objs K=lk s.objs K∧K∈sy:=by
  intro K hm hM
  rcases hap with ⟨hcx,hcy,ha,hb⟩|ha
  · have h1:K∉dy.made:=fun h=>hb K h hm
    have:=(Ey.calm hcy).1 K h1 hM
    exact ⟨by rw [this.2,O1 K (Ey.mm K hM)],this.1⟩
  · exact absurd (Ey.mm K hM) (ha K hm)
 have O2 : ∀K,K∈sx→lk t1.objs K=lk s.objs K:=by
  intro K hK
  have hm:=Ex.mm K (Ex.sn K hK)
  rw [lk_like_objs Ey1.like Ey1.eo]
  by_cases hM:K∈My
  · rw [if_pos hM,(Y1 K hm hM).1]
    exact map_kill_id fun o ho=>D2 _ (Ex.so K hK o ho)
  · rw [if_neg hM]
    exact map_kill_id fun o ho=>D2 _ (Ex.so K hK o ho)
 have E2 : ∀x∈looks ops dx.i,lk t1.env x=(lk s.env x).map (killV ey.dead):=by
  intro x hx
  rw [lk_like_env Ey1.like,if_neg]
  rintro ⟨h1,_⟩;exact hd2 x h1 hx
 have R2 : ∀r∈dx.more.rd,rdv t1.objs r.1 r.2=rdv s.objs r.1 r.2:=by
  intro r hr
  obtain ⟨u,hu,hu1,hu2⟩:=Ex.rr r hr
  rw [hu]
  have hq:=List.all_eq_true.1 hr1 r hr
  have hl:=lk_like_objs Ey1.like Ey1.eo r.1
  have hd:=D2' u.c (.inr hu1)
  by_cases hM:r.1∈My
  · rw [if_pos hM] at hl
    refine rdv_live hl r.2 ?_ hd
    rw [←hu]
    simp only [Bool.or_eq_true,Bool.and_eq_true,Bool.not_eq_true'] at hq
    rcases hq with hq|⟨hc,hmd⟩|hq
    · exact absurd (Ey.mm _ hM) (mem_false.1 hq)
    · exact rdv_congr ((Ey1.calm (by rw [hy3];exact hc)).1 r.1 (by rw [hy4];exact mem_false.1 hmd) hM).2 _
    · split at hq
      · rename_i l hl';exact Ey1.wr l (by rw [hy6];exact hl') r hq hM
      · simp at hq
  · rw [if_neg hM] at hl
    exact rdv_live hl r.2 hu hd
 obtain ⟨t2,dx',hx1,hx2,hx3,hx4,hx5,hx6,Ex1,hxh⟩:=trx t1 ey.dead D2' R2 (.inl ⟨E2,O2⟩) (fun K hK=>by
  rw [lk_like_objs Ey1.like Ey1.eo]
  by_cases hM:K∈My
  · rw [if_pos hM,(Y1 K (Ex.md K hK) hM).1,Ex.fresh K hK];rfl
  · rw [if_neg hM,Ex.fresh K hK];rfl)
 have hh:dx'.hit=false:=by
  refine hxh fun K o ho hor => ?_
  rw [lk_like_objs Ey1.like Ey1.eo] at ho
  by_cases hM:K∈My
  · rw [if_pos hM] at ho
    cases hq:lk ey.objs K with
    | none=>rw [hq] at ho;simp at ho
    | some u=>
      rw [hq] at ho;simp only [Option.map_some,Option.some.injEq] at ho;subst ho
      exact anyDead_kill _ (D1 _ (Ey.ec K u hq))
  · rw [if_neg hM] at ho
    cases hq:lk s.objs K with
    | none=>rw [hq] at ho;simp at ho
    | some u=>
      rw [hq] at ho;simp only [Option.map_some,Option.some.injEq] at ho;subst ho
      exact anyDead_kill _ (hitx K u hq hor)
 have hdx:dx'=dx:=by
  cases dx;cases dx'
  simp only [Done.mk.injEq] at hx2 hx3 hx4 hx5 hx6 hh hit ⊢
  exact ⟨hx2,hx3,hx4,hx5,by rw [hh,hit],hx6⟩
 refine ⟨t1,t2,dy',hy1,⟨hy2,hy3,hy4,hy5,hy6⟩,by rw [←hdx];exact hx1,?_,?_⟩
 · intro t
   rw [lk_like_env Ey.like,lk_like_env Ex1.like,lk_like_env Ex.like,lk_like_env Ey1.like]
   by_cases hx:dstOf ops dx.i=some t
   · have hy:dstOf ops dy.i≠some t:=hd3 t hx
     have hv:=Ex.sv t hx
     simp only [hx,hv,hy,and_self,if_true,false_and,if_false]
     cases hev:ex.v with
     | none=>rfl
     | some v=>simp [anyDead_id _ v (D2' v (Ex.ev v hev))]
   · by_cases hy:dstOf ops dy.i=some t
     · have hv:=Ey.sv t hy
       simp only [hx,hv,hy,and_self,if_true,false_and,if_false]
       cases hev:ey.v with
       | none=>rfl
       | some v=>simp [anyDead_id _ v (D1' v (Ey.ev v hev))]
     · simp only [hx,hy,false_and,if_false]
       cases lk s.env t with
       | none=>rfl
       | some v=>simp [killV_comm]
 · intro K
   rw [lk_like_objs Ey.like Ey.eo,lk_like_objs Ex1.like Ex1.eo,lk_like_objs Ex.like Ex.eo,lk_like_objs Ey1.like Ey1.eo]
   by_cases hX:K∈Mx
   · by_cases hY:K∈My
     · obtain ⟨hcx,hmx,hsx,hex⟩:=X1 K (Ey.mm K hY) hX
       rw [if_pos hX,if_pos hY,hex,(Y1 K (Ex.mm K hX) hY).1]
       rw [map_kill_id fun o ho=>hitx K o ho (.inl (Ex.cc hcx)),map_kill_id fun o ho=>D2 _ (Ex.so K hsx o ho)]
     · rw [if_pos hX,if_neg hY,if_pos hX]
       rw [map_map_kill]
       cases hq:lk ex.objs K with
       | none=>rfl
       | some u=>
         simp only [Option.map_some]
         rw [anyDead_id ey.dead _ (anyDead_kill _ (D2 _ (Ex.ec K u hq)))]
   · by_cases hY:K∈My
     · rw [if_neg hX,if_pos hY,if_pos hY]
       rw [map_map_kill]
       cases hq:lk ey.objs K with
       | none=>rfl
       | some u=>
         simp only [Option.map_some]
         rw [anyDead_id ex.dead _ (anyDead_kill _ (D1 _ (Ey.ec K u hq)))]
     · rw [if_neg hX,if_neg hY,if_neg hX,if_neg hY,map_map_kill,map_map_kill]
       cases lk s.objs K with
       | none=>rfl
       | some u=>simp [killV_comm]
end Go.VK
namespace Go.VK
open AVal
structure DLe (d d':Done):Prop where
 i:d'.i=d.i
 calm:d'.calm=d.calm
 made:d'.made=d.made
 ment:d'.ment=d.ment
 more:d'.more=d.more
 hit:d.hit=false→d'.hit=false
theorem DLe.refl (d:Done):DLe d d:=⟨rfl,rfl,rfl,rfl,rfl,id⟩
theorem DLe.trans {a b c:Done} (h:DLe a b) (k:DLe b c):DLe a c:=⟨k.i.trans h.i,k.calm.trans h.calm,k.made.trans h.made,k.ment.trans h.ment,k.more.trans h.more,fun x=>k.hit (h.hit x)⟩
theorem freeOk_le {ops:Array Oper} {x x' y y':Done} (hx:DLe x x') (hy:y'.i=y.i∧y'.calm=y.calm∧y'.made=y.made∧y'.ment=y.ment∧y'.more=y.more) (h:freeOk ops x y=true):freeOk ops x' y'=true:=by
 obtain ⟨h1,h2,h3,h4,h5⟩:=hy
 simp only [freeOk,valOk,rdOk,Bool.and_eq_true,Bool.not_eq_true',Bool.or_eq_true] at h ⊢
 rw [hx.i,hx.calm,hx.made,hx.ment,hx.more,h1,h2,h3,h4,h5]
 exact ⟨⟨h.1.1,h.1.2.1,h.1.2.2.1,hx.hit h.1.2.2.2.1,h.1.2.2.2.2⟩,h.2⟩
inductive DLes:List Done→List Done→Prop
 | nil:DLes [] []
 | cons {d d':Done} {ds ds':List Done}:DLe d d'→DLes ds ds'→DLes (d::ds) (d'::ds')
theorem DLes.refl : ∀(ds:List Done),DLes ds ds
 | []=>.nil
 | d::ds=>.cons (DLe.refl d) (DLes.refl ds)
theorem DLes.trans {a b c:List Done} (h:DLes a b):DLes b c→DLes a c:=by
 induction h generalizing c with
 | nil=>exact id
 | cons h _ ih=>intro k;cases k with|cons k1 k2=>exact .cons (h.trans k1) (ih k2)
def OrdP (ops:Array Oper) (bf:List Nat) (x y:Done):Prop:=isBefore bf x.i y.i=true∨freeOk ops x y=true∨pairOk ops bf x y=true∨makeOk ops bf x y=true
theorem DLes.mem {ds ds':List Done} (h:DLes ds ds') : ∀y'∈ds',∃y∈ds,DLe y y':=by
 induction h with
 | nil=>simp
 | cons h _ ih=>
   rintro y' hy
   rcases List.mem_cons.1 hy with rfl|hy
   · exact ⟨_,List.mem_cons_self ..,h⟩
   · obtain ⟨y,h1,h2⟩:=ih y' hy;exact ⟨y,List.mem_cons_of_mem _ h1,h2⟩
theorem DLes.ord {ops:Array Oper} {bf:List Nat} {ds ds':List Done} (h:DLes ds ds') (ho:ds.Pairwise (OrdP ops bf)):ds'.Pairwise (OrdP ops bf):=by
 induction h with
 | nil=>exact .nil
 | cons h hs ih=>
   cases ho with
   | cons h1 h2=>
     refine .cons (fun y' hy' => ?_) (ih h2)
     obtain ⟨y,hy,hle⟩:=hs.mem y' hy'
     rcases h1 y hy with hb|hf
     · exact .inl (by rw [h.i,hle.i];exact hb)
     · refine .inr (hf.imp (freeOk_le h ⟨hle.i,hle.calm,hle.made,hle.ment,hle.more⟩) fun hp => ?_)
       unfold pairOk makeOk at hp ⊢
       rw [h.i,hle.i,h.more,hle.more];exact hp
inductive Tr (f:Nat→St→Option (St×Done)):List Nat→St→List Done→St→Prop
 | nil (s:St):Tr f [] s [] s
 | cons {i:Nat} {l:List Nat} {s s1 s2:St} {d:Done} {ds:List Done}:f i s=some (s1,d)→Tr f l s1 ds s2→Tr f (i::l) s (d::ds) s2
def Moves (ops:Array Oper) (f:Nat→St→Option (St×Done)):Prop := ∀i s s' d,f i s=some (s',d)→d.i=i∧Stp (f i) (looks ops i) (dstOf ops i) s d s'
theorem Moves.like {ops:Array Oper} {f:Nat→St→Option (St×Done)} (hm:Moves ops f) {i:Nat} {s t s':St} {d:Done} (h:f i s=some (s',d)) (hl:s.like t) : ∃t' d',f i t=some (t',d')∧s'.like t'∧DLe d d':=by
 obtain ⟨_,hS⟩:=hm i s s' d h
 obtain ⟨M,seen,e,hE,htr⟩:=hS.ex
 obtain ⟨t',d',h1,h2,h3,h4,h5,h5',h6,h7⟩:=htr t (AVal.dead [] [] []) (fun v _=>anyDead_nil v) (fun r _=>rdv_congr (hl.2 r.1) _) (.inl ⟨fun x _=>by
  rw [hl.1]
  cases lk s.env x with
  | none=>rfl
  | some v=>simp [kill_nil],fun K _=>hl.2 K⟩) (fun K hK=>by rw [hl.2];exact hE.fresh K hK)
 exact ⟨t',d',h1,(hE.like.symm.trans (join_like hl M _ e hE.eo)).trans h6.like,⟨h2,h3,h4,h5,h5',fun hh=>h7 fun K o ho=>hE.hit hh K o (by rw [←hl.2];exact ho)⟩⟩
theorem Tr.like {ops:Array Oper} {f:Nat→St→Option (St×Done)} (hm:Moves ops f) {l:List Nat} {s s2:St} {ds:List Done} (h:Tr f l s ds s2) : ∀{t:St},s.like t → ∃ds' t2,Tr f l t ds' t2∧s2.like t2∧DLes ds ds':=by
 induction h with
 | nil s=>intro t hl;exact ⟨[],t,.nil t,hl,.nil⟩
 | cons h _ ih=>
   intro t hl
   obtain ⟨t',d',h1,h2,h3⟩:=hm.like h hl
   obtain ⟨ds',t2,h4,h5,h6⟩:=ih h2
   exact ⟨d'::ds',t2,.cons h1 h4,h5,.cons h3 h6⟩
theorem Tr.front {ops:Array Oper} {f:Nat→St→Option (St×Done)} (hm:Moves ops f) {y:Nat} {l2:List Nat} {s2:St} {dy:Done} {ds2:List Done} : ∀{l1:List Nat} {ds1:List Done} {s:St},Tr f (l1++y::l2) s (ds1++dy::ds2) s2→l1.length=ds1.length→(∀x∈ds1,freeOk ops x dy=true) →
 ∃t1 dy',f y s=some (t1,dy')∧(dy'.i=dy.i∧dy'.calm=dy.calm∧dy'.made=dy.made∧dy'.ment=dy.ment∧dy'.more=dy.more) ∧ ∃ds' t2,Tr f (l1++l2) t1 ds' t2∧s2.like t2∧DLes (ds1++ds2) ds'
 | [],ds1,s,h,hlen,hf=>by
   have:ds1=[]:=by cases ds1 with|nil=>rfl|cons _ _=>simp at hlen
   subst this
   cases h with
   | cons h1 h2=>exact ⟨_,_,h1,⟨rfl,rfl,rfl,rfl,rfl⟩,_,_,h2,St.like.refl _,DLes.refl _⟩
 | x::l1,[],s,h,hlen,hf=>by simp at hlen
 | x::l1,dx::ds1,s,h,hlen,hf=>by
   simp only [List.cons_append] at h
   cases h with
   | cons h1 h2=>
     rename_i s1
     obtain ⟨t1,dy',hy,hyy,ds',t2,hT,hl,hle⟩:=Tr.front hm h2 (by simpa using hlen) (fun z hz=>hf z (List.mem_cons_of_mem _ hz))
     have hfx:freeOk ops dx dy'=true:=freeOk_le (DLe.refl dx) hyy (hf dx (List.mem_cons_self ..))
     obtain ⟨hix,hSx⟩:=hm x s s1 dx h1
     obtain ⟨hiy,hSy⟩:=hm y s1 t1 dy' hy
     rw [←hix] at hSx;rw [←hiy] at hSy
     obtain ⟨u1,u2,dy'',hu1,hu2,hu3,hu4⟩:=swap hSx hSy hfx
     rw [hiy] at hu1;rw [hix] at hu3
     obtain ⟨ds'',u3,hT2,hl2,hle2⟩:=hT.like hm hu4
     refine ⟨u1,dy'',hu1,⟨hu2.1.trans hyy.1,hu2.2.1.trans hyy.2.1,hu2.2.2.1.trans hyy.2.2.1,hu2.2.2.2.1.trans hyy.2.2.2.1,hu2.2.2.2.2.trans hyy.2.2.2.2⟩,dx::ds'',u3,.cons hu3 hT2,hl.trans hl2,?_⟩
     exact .cons (DLe.refl dx) (hle.trans hle2)
theorem Tr.length {f:Nat→St→Option (St×Done)} {l:List Nat} {s s2:St} {ds:List Done} (h:Tr f l s ds s2):l.length=ds.length:=by
 induction h with
 | nil=>rfl
 | cons _ _ ih=>simp [ih]
theorem Tr.is {ops:Array Oper} {f:Nat→St→Option (St×Done)} (hm:Moves ops f) {l:List Nat} {s s2:St} {ds:List Done} (h:Tr f l s ds s2):ds.map (·.i)=l:=by
 induction h with
 | nil=>rfl
 | cons h _ ih=>simp [ih,(hm _ _ _ _ h).1]
theorem anc_fold {acc:List Nat} {x:Nat} : ∀{l:List Edge} {s0:Nat},(l.foldl (fun s e=>bif Region.binds .any e then (s ||| 2 ^ e.on) ||| acc.getD e.on 0 else s) s0).testBit x=true →
 s0.testBit x=true ∨ ∃e∈l,Region.binds .any e=true∧(x=e.on∨(acc.getD e.on 0).testBit x=true)
 | [],s0,h=>.inl h
 | e::l,s0,h=>by
   simp only [List.foldl_cons] at h
   rcases anc_fold h with h|⟨e',h1,h2⟩
   · cases hb:Region.binds .any e with
     | false=>rw [hb] at h;exact .inl h
     | true=>
       rw [hb] at h
       simp only [cond_true,Nat.testBit_or,Bool.or_eq_true,Nat.testBit_two_pow,decide_eq_true_eq] at h
       rcases h with (h|h)|h
       · exact .inl h
       · exact .inr ⟨e,List.mem_cons_self ..,hb,.inl h.symm⟩
       · exact .inr ⟨e,List.mem_cons_self ..,hb,.inr h⟩
   · exact .inr ⟨e',List.mem_cons_of_mem _ h1,h2⟩
def Shut (ops:List Oper) (lt:Nat→Prop):Prop := ∀i o,ops[i]? = some o→lt i → ∀e∈o.after.toList,Region.binds .any e=true→lt e.on
theorem ancs_spec {lt:Nat→Prop} : ∀{r:List Oper} {done:List Oper} {acc:List Nat},Shut (done++r) lt→acc.length=done.length →
 (∀y o,done[y]? = some o→(∀e∈o.after.toList,Region.binds .any e=true→lt e.on) → ∀x,(acc.getD y 0).testBit x=true→lt x) →
 ∀y o,(done++r)[y]? = some o→(∀e∈o.after.toList,Region.binds .any e=true→lt e.on) → ∀x,((ancs r acc).getD y 0).testBit x=true→lt x
 | [],done,acc,hs,hl,ih,y,o,hy,he,x,hx=>by
   simp only [ancs] at hx
   exact ih y o (by simpa using hy) he x hx
 | q::r,done,acc,hs,hl,ih,y,o,hy,he,x,hx=>by
   simp only [ancs] at hx
   refine ancs_spec (r:=r) (done:=done++[q]) (acc:=acc++[ancOf acc q]) (by simpa using hs) (by simp [hl]) ?_ y o (by simpa using hy) he x hx
   intro y o hy he x hx
   by_cases hlt:y<done.length
   · rw [List.getElem?_append_left hlt] at hy
     rw [List.getD_eq_getElem?_getD,List.getElem?_append_left (by omega),←List.getD_eq_getElem?_getD] at hx
     exact ih y o hy he x hx
   · rw [List.getElem?_append_right (by omega)] at hy
     have hy0:y-done.length=0:=by
      by_cases h0:y-done.length=0
      · exact h0
      · rw [List.getElem?_eq_none (by simp;omega)] at hy;simp at hy
     rw [hy0] at hy
     simp only [List.getElem?_cons_zero,Option.some.injEq] at hy
     subst hy
     rw [List.getD_eq_getElem?_getD,List.getElem?_append_right (by omega),hl,hy0] at hx
     simp only [List.getElem?_cons_zero,Option.getD_some,ancOf] at hx
     rcases anc_fold hx with h|⟨e,h1,h2,h3⟩
     · simp at h
     · have hle:=he e h1 h2
       rcases h3 with rfl|h3
       · exact hle
       · by_cases hk:e.on<done.length
         · obtain ⟨u,hu⟩ : ∃u,done[e.on]? = some u:=⟨done[e.on],by simp [hk]⟩
           refine ih e.on u hu (fun e' he' hb' => ?_) x h3
           exact hs e.on u (by rw [List.getElem?_append_left hk];exact hu) hle e' he' hb'
         · rw [List.getD_eq_getElem?_getD,List.getElem?_eq_none (by omega)] at h3;simp at h3
end Go.VK
namespace Go.VK
open AVal
section
variable {P:Program} {ops:Array Oper} {Q:Exit→Act→World→Prop} {FR:St→Act→World→Prop} {f:Nat→St→Option (St×Done)}
def StepsOK (P:Program) (ops:Array Oper) (Q:Exit→Act→World→Prop) (FR:St→Act→World→Prop) (f:Nat→St→Option (St×Done)):Prop:=
 ∀i s s' d,f i s=some (s',d) → ∀a w,FR s a w → ∀K:Act→World→Prop,(∀a' w',FR s' a' w'→K a' w')→wpOp P ops Q i K a w
theorem tr_wpOps (hop:StepsOK P ops Q FR f) {l:List Nat} {s s2:St} {ds:List Done} (h:Tr f l s ds s2) (hq : ∀a w,FR s2 a w→Q .normal a w) : ∀a w,FR s a w→wpOps P ops Q l a w:=by
 induction h with
 | nil s=>intro a w hr;exact hq a w hr
 | cons h _ ih=>intro a w hr;rw [wpOps_cons];exact hop _ _ _ _ h a w hr _ (ih hq)
theorem edgesOk_spec : ∀{l:List Oper} {k:Nat},edgesOk l k=true → ∀i o,l[i]? = some o → ∀e∈o.after.toList,Region.binds .any e=true→e.on<i+k
 | [],k,h,i,o,ho,e,he,hb=>by simp at ho
 | q::r,k,h,i,o,ho,e,he,hb=>by
   simp only [edgesOk,Bool.and_eq_true,List.all_eq_true] at h
   cases i with
   | zero=>
     simp only [List.getElem?_cons_zero,Option.some.injEq] at ho;subst ho
     have:=h.1 e he
     simp [hb] at this;simpa using this
   | succ i=>
     have:=edgesOk_spec h.2 i o (by simpa using ho) e he hb;omega
def PtrOK (ops:Array Oper) (f:Nat→St→Option (St×Done)):Prop:=
 ∀i s s' d,f i s=some (s',d)→bareQ ops[i]? = true → ∃K q,d.more.ptr=some (K,q)∧K∈d.ment∧d.calm=false
def PairsOK (P:Program) (ops:Array Oper) (Q:Exit→Act→World→Prop) (FR:St→Act→World→Prop) (f:Nat→St→Option (St×Done)):Prop:=
 ∀x y s s1 s2 dx dy K q J,f x s=some (s1,dx)→f y s1=some (s2,dy)→bareQ ops[x]? = true→bareQ ops[y]? = true→dx.more.ptr=some (K,q)→dy.more.ptr=some (J,[])→K≠J → ∀a w,FR s a w → ∀Z:Act→World→Prop,(∀a' w',FR s2 a' w'→Z a' w')→wpOp P ops Q y (fun a1 w1=>wpOp P ops Q x Z a1 w1) a w
def TriplesOK (P:Program) (ops:Array Oper) (Q:Exit→Act→World→Prop) (FR:St→Act→World→Prop) (f:Nat→St→Option (St×Done)):Prop:=
 ∀u x y s s0 s1 s2 du dx dy K q J,f u s=some (s0,du)→f x s0=some (s1,dx)→f y s1=some (s2,dy)→idxQ ops u x y=true→bareQ ops[x]? = true→bareQ ops[y]? = true→dx.more.ptr=some (K,q)→dy.more.ptr=some (J,[])→K≠J → ∀a w,FR s a w → ∀Z:Act→World→Prop,(∀a' w',FR s2 a' w'→Z a' w') →
  wpOp P ops Q y (fun a1 w1=>wpOp P ops Q u (fun a2 w2=>wpOp P ops Q x Z a2 w2) a1 w1) a w
theorem idxQ_bare {u x y:Nat} (h:idxQ ops u x y=true):bareQ ops[u]? = false:=by
 unfold idxQ at h
 split at h
 · rename_i a b h1 h2
   rw [h1]
   simp only [Bool.and_eq_true] at h
   obtain ⟨_,h3,_⟩:=h
   split at h3
   · rename_i ho _ _
     cases hb:bareQ (some a) with
     | false=>rfl
     | true=>
       simp only [bareQ,Bool.and_eq_true] at hb
       rw [ho] at hb;simp at hb
   · simp at h3
 · simp at h
theorem idxQ_edge {u x y:Nat} (h:idxQ ops u x y=true) : ∃o e,ops[x]? = some o∧e∈o.after.toList∧Region.binds .any e=true∧e.on=u:=by
 unfold idxQ at h
 split at h
 · rename_i a b h1 h2
   simp only [Bool.and_eq_true,List.any_eq_true,Nat.beq_eq] at h
   obtain ⟨_,_,e,he,hb,hu⟩:=h
   exact ⟨b,e,h2,he,hb,hu⟩
 · simp at h
theorem wpAny_done {listed:Array Bool} (h : ∀j,j<ops.size→listed.getD j true=true) {a:Act} {w:World} (hq:Q .normal a w) : ∀fuel,wpAny P .any ops Q fuel listed a w:=by
 have hr:Region.ready .any ops listed=[]:=by
  cases hrd:Region.ready .any ops listed with
  | nil=>rfl
  | cons j js=>
    exfalso
    obtain ⟨h1,o,h2,_⟩:=mem_ready.1 (show j∈Region.ready .any ops listed by rw [hrd];exact List.mem_cons_self ..)
    have:=h j (Array.getElem?_eq_some_iff.1 h2).1
    rw [h1] at this;simp at this
 intro fuel
 cases fuel with
 | zero=>exact ⟨hr,hq⟩
 | succ n=>exact ⟨fun _=>hq,fun i hi=>by rw [hr] at hi;simp at hi⟩
theorem tr_wpAny (hop:StepsOK P ops Q FR f) (hpt:PtrOK ops f) (hpo:PairsOK P ops Q FR f) (hto:TriplesOK P ops Q FR f) (hm:Moves ops f) (hed:edgesOk ops.toList 0=true) : ∀(fuel:Nat) (listed:Array Bool) (l:List Nat) (s s2:St) (ds:List Done) (a:Act) (w:World),
 Tr f l s ds s2→ds.Pairwise (OrdP ops (ancs ops.toList []))→l.Pairwise (· < ·)→(∀j,j∈l↔j<ops.size∧listed.getD j true=false)→listed.size=ops.size→Shut ops.toList (fun i=>listed.getD i false=true) →
 l.length≤fuel→FR s a w→(∀t,s2.like t → ∀a w,FR t a w→Q .normal a w)→wpAny P .any ops Q fuel listed a w:=by
 have hready : ∀(listed:Array Bool) (l:List Nat),(∀j,j∈l↔j<ops.size∧listed.getD j true=false) → ∀j∈Region.ready .any ops listed,j∈l:=by
  intro listed l hl j hj
  obtain ⟨h1,o,h2,_⟩:=mem_ready.1 hj
  exact (hl j).2 ⟨(Array.getElem?_eq_some_iff.1 h2).1,h1⟩
 intro fuel
 induction fuel with
 | zero=>
   intro listed l s s2 ds a w hT hord hlt hl hsz hsh hlen hr hq
   have:l=[]:=List.length_eq_zero_iff.1 (by omega)
   subst this
   cases hT
   refine ⟨?_,hq s (St.like.refl s) a w hr⟩
   cases hrd:Region.ready .any ops listed with
   | nil=>rfl
   | cons j js=>have:=hready listed [] hl j (by rw [hrd];exact List.mem_cons_self ..);simp at this
 | succ fuel ih=>
   intro listed l s s2 ds a w hT hord hlt hl hsz hsh hlen hr hq
   refine ⟨fun hemp => ?_,fun j hj => ?_⟩
   · cases l with
     | nil=>cases hT;exact hq s (St.like.refl s) a w hr
     | cons i l=>
       exfalso
       obtain ⟨h1,h2⟩:=(hl i).1 (List.mem_cons_self ..)
       have:i∈Region.ready .any ops listed:=by
        refine mem_ready.2 ⟨h2,ops[i],by simp [h1],fun e he hb => ?_⟩
        have he0:=edgesOk_spec hed i ops[i] (by simp [h1]) e (by simpa using he) hb
        cases hle:listed.getD e.on true with
        | false=>
          have:=(hl e.on).2 ⟨by omega,hle⟩
          rcases List.mem_cons.1 this with h|h
          · omega
          · have:=(List.pairwise_cons.1 hlt).1 _ h;omega
        | true=>
          have hin:e.on<listed.size:=by omega
          simp only [Array.getD_eq_getD_getElem?,Array.getElem?_eq_getElem hin,Option.getD_some] at hle ⊢
          exact hle
       rw [hemp] at this;simp at this
   · have hjl:=hready listed l hl j hj
     obtain ⟨hj1,o,hj2,hj3⟩:=mem_ready.1 hj
     obtain ⟨l1,l2,rfl⟩:=List.append_of_mem hjl
     have hlen2:=hT.length
     obtain ⟨ds1,ds2',rfl,hd1⟩ : ∃ds1 ds2,ds=ds1++ds2∧ds1.length=l1.length:=⟨ds.take l1.length,ds.drop l1.length,by simp,by simp at hlen2 ⊢;omega⟩
     cases ds2' with
     | nil=>simp at hlen2;omega
     | cons dy ds2=>
       have his:=hT.is hm
       have hi1:ds1.map (·.i)=l1:=by
        have:=congrArg (List.take l1.length) his
        rw [List.map_append,List.take_append_of_le_length (by simp [hd1]),List.take_append_of_le_length (by simp)] at this
        rw [List.take_of_length_le (by simp [hd1]),List.take_of_length_le (Nat.le_refl _)] at this
        exact this
       have hiy:dy.i=j:=by
        rw [List.map_append,List.map_cons,hi1] at his
        have:=List.append_cancel_left his
        simpa using (List.cons.inj this).1
       have hnb : ∀z∈l1,isBefore (ancs ops.toList []) z j=true→False:=by
        intro z hxl hb
        have hx0:=((hl z).1 (List.mem_append.2 (.inl hxl))).2
        have:=ancs_spec (r:=ops.toList) (done:=[]) (acc:=[]) (lt:=fun i=>listed.getD i false=true) (by simpa using hsh) rfl (by simp) j o (by simpa using hj2) (fun e he hbb=>hj3 e (by simpa using he) hbb) z hb
        have hin:=((hl z).1 (List.mem_append.2 (.inl hxl))).1
        have hin':z<listed.size:=by omega
        simp only [Array.getD_eq_getD_getElem?,Array.getElem?_eq_getElem hin',Option.getD_some] at this hx0
        rw [hx0] at this;simp at this
       have hpw:=List.pairwise_append.1 hlt
       have hxr : ∀z∈l1,z<ops.size:=fun z hz=>((hl z).1 (List.mem_append.2 (.inl hz))).1
       have hlisted : ∀z,z<ops.size→z∉l1++j::l2→listed.getD z true=true:=fun z hz hn=>by
        cases hlz:listed.getD z true with
        | true=>rfl
        | false=>exact absurd ((hl z).2 ⟨hz,hlz⟩) hn
       have hedge : ∀u x,idxQ ops u x j=true→listed.getD x false=true→listed.getD u false=true:=fun u x hi hx=>by
        obtain ⟨o',e,q1,q2,q3,q4⟩:=idxQ_edge hi
        rw [←q4]
        exact hsh x o' (by simpa using q1) hx e q2 q3
       have hfalse : ∀z,z<ops.size→listed.getD z true=true→listed.getD z false=true:=fun z hz h=>by
        have hin:z<listed.size:=by omega
        simp only [Array.getD_eq_getD_getElem?,Array.getElem?_eq_getElem hin,Option.getD_some] at h ⊢
        exact h
       by_cases hlate : ∃z∈ds1,pairOk ops (ancs ops.toList []) z dy=true∨makeOk ops (ancs ops.toList []) z dy=true
       · obtain ⟨x,J,hy1,hxy,hxl,hbx,hby,hJ,hl1⟩ : ∃x J,j+1=ops.size∧x<j∧x∈l1∧bareQ ops[x]? = true∧bareQ ops[j]? = true∧dy.more.ptr=some (J,[]) ∧ ∀z∈l1,z=x∨(z+1=x∧idxQ ops z x j=true):=by
          obtain ⟨dz,hdz,hpk|hpk⟩:=hlate
          · simp only [pairOk,Bool.and_eq_true,Nat.beq_eq,List.all_eq_true,List.mem_range,Bool.or_eq_true,Nat.blt_eq] at hpk
            obtain ⟨hy1,hxy,hbx,hby,hpp,hall⟩:=hpk
            rw [hiy] at hy1 hall hxy hby
            obtain ⟨J,hJ⟩ : ∃J,dy.more.ptr=some (J,[]):=by
             split at hpp
             · rename_i q;exact ⟨_,q⟩
             · simp at hpp
            refine ⟨dz.i,J,hy1,hxy,by rw [←hi1];exact List.mem_map.2 ⟨dz,hdz,rfl⟩,hbx,hby,hJ,fun z hz => ?_⟩
            have h1:=hpw.2.2 z hz j (List.mem_cons_self ..)
            rcases hall z h1 with h|h|h
            · exact .inl h
            · exact (hnb z hz h).elim
            · exact .inr h
          · simp only [makeOk,Bool.and_eq_true,Nat.beq_eq,List.all_eq_true,List.mem_range,Bool.or_eq_true,Nat.blt_eq] at hpk
            obtain ⟨hy1,hxy,hbx,hby,hpp,hidx,hall⟩:=hpk
            rw [hiy] at hy1 hall hxy hidx hby
            obtain ⟨J,hJ⟩ : ∃J,dy.more.ptr=some (J,[]):=by
             split at hpp
             · rename_i q;exact ⟨_,q⟩
             · simp at hpp
            have hul:dz.i∈l1:=by rw [←hi1];exact List.mem_map.2 ⟨dz,hdz,rfl⟩
            have hnu:listed.getD dz.i true=false:=((hl dz.i).1 (List.mem_append.2 (.inl hul))).2
            refine ⟨dz.i+1,J,hy1,hxy,?_,hbx,hby,hJ,fun z hz => ?_⟩
            · cases hlz:listed.getD (dz.i+1) true with
              | true=>
                exfalso
                have:=hedge dz.i (dz.i+1) hidx (hfalse (dz.i+1) (by omega) hlz)
                have hin:dz.i<listed.size:=by omega
                simp only [Array.getD_eq_getD_getElem?,Array.getElem?_eq_getElem hin,Option.getD_some] at this hnu
                rw [hnu] at this;simp at this
              | false=>
                have:=(hl (dz.i+1)).2 ⟨by omega,hlz⟩
                rcases List.mem_append.1 this with h|h
                · exact h
                · rcases List.mem_cons.1 h with h|h
                  · omega
                  · have:=(List.pairwise_cons.1 hpw.2.1).1 _ h;omega
            · have h1:=hpw.2.2 z hz j (List.mem_cons_self ..)
              rcases hall z h1 with h|h|h
              · exact .inr ⟨by rw [h],by rw [h];exact hidx⟩
              · exact .inl h
              · exact (hnb z hz h).elim
         have hap : ∀dx∈ds1,dx.i=x → ∀K q,dx.more.ptr=some (K,q)→K∈dx.ment→dx.calm=false→J∈dy.ment→K≠J:=fun dx hdx hxi K q hK hKm hKc hJm he=>by
          have hp:=(List.pairwise_append.1 hord).2.2 dx hdx dy (List.mem_cons_self ..)
          rcases hp with hb|hf|hf|hf
          · exact hnb x hxl (by rw [←hxi,←hiy];exact hb)
          · obtain ⟨_,_,_,_,hap,_⟩:=freeOk_iff hf
            rcases hap with ⟨hc,_⟩|ha
            · rw [hKc] at hc;simp at hc
            · exact ha K hKm (he▸hJm)
          · simp only [pairOk,Bool.and_eq_true] at hf
            obtain ⟨_,_,_,_,hpp,_⟩:=hf
            rw [hK,hJ] at hpp
            simp [he] at hpp
          · simp only [makeOk,Bool.and_eq_true] at hf
            obtain ⟨_,_,_,_,_,hidx,_⟩:=hf
            have:=idxQ_bare hidx
            rw [hxi,hbx] at this;simp at this
         have hl2:l2=[]:=by
          cases l2 with
          | nil=>rfl
          | cons u l2=>
            exfalso
            have h1:=(List.pairwise_cons.1 hpw.2.1).1 u (List.mem_cons_self ..)
            have h2:=((hl u).1 (by simp)).1
            omega
         subst hl2
         have hl1e:l1=[x] ∨ ∃u,l1=[u,x]∧u+1=x∧idxQ ops u x j=true:=by
          cases l1 with
          | nil=>simp at hxl
          | cons z l1=>
            have hsort:=List.pairwise_cons.1 hpw.1
            rcases hl1 z (List.mem_cons_self ..) with hz|⟨hz,hzi⟩
            · left
              cases l1 with
              | nil=>rw [hz]
              | cons z2 l1=>
                exfalso
                have h1:=hsort.1 z2 (List.mem_cons_self ..)
                rcases hl1 z2 (by simp) with h2|⟨h2,_⟩ <;> omega
            · right
              cases l1 with
              | nil=>simp at hxl;omega
              | cons z2 l1=>
                have h1:=hsort.1 z2 (List.mem_cons_self ..)
                have hz2:z2=x:=by rcases hl1 z2 (by simp) with h2|⟨h2,_⟩ <;> omega
                cases l1 with
                | nil=>exact ⟨z,by rw [hz2],hz,hzi⟩
                | cons z3 l1=>
                  exfalso
                  have h3:=(List.pairwise_cons.1 hsort.2).1 z3 (List.mem_cons_self ..)
                  rcases hl1 z3 (by simp) with h4|⟨h4,_⟩ <;> omega
         have dset : ∀(L:Array Bool) (i k:Nat),k≠i→(L.setIfInBounds i true).getD k true=L.getD k true:=fun L i k h=>Go.getD_set_ne true (Ne.symm h)
         have self : ∀(L:Array Bool) (i:Nat),i<L.size→(L.setIfInBounds i true).getD i true=true:=fun L i h=>by simp [h]
         have lastStep : ∀(L:Array Bool) (x fuel:Nat) (a1:Act) (w1:World),L.size=ops.size→x<ops.size→L.getD x true=false→(∀z,z<ops.size→z≠x→L.getD z true=true)→(∀z,z<ops.size→z≠x→L.getD z false=true) →
          wpOp P ops Q x (wpAny P .any ops Q fuel (L.setIfInBounds x true)) a1 w1→wpAny P .any ops Q (fuel+1) L a1 w1:=fun L x fuel a1 w1 hLs hx hLx hLo hLo2 h1=>by
          refine ⟨fun hemp => ?_,fun i hi => ?_⟩
          · exfalso
            have:x∈Region.ready .any ops L:=mem_ready.2 ⟨hLx,ops[x],by simp [hx],fun e he hb=>by
             have he0:=edgesOk_spec hed x ops[x] (by simp [hx]) e (by simpa using he) hb
             exact hLo2 e.on (by omega) (by omega)⟩
            rw [hemp] at this;simp at this
          · obtain ⟨q1,u,q2,_⟩:=mem_ready.1 hi
            have hi1:=(Array.getElem?_eq_some_iff.1 q2).1
            have:i=x:=by
             apply Classical.byContradiction
             intro hne
             rw [hLo i hi1 hne] at q1;simp at q1
            subst this
            exact h1
         rcases hl1e with hl1e|⟨u,hl1e,hux,hidx⟩
         · obtain ⟨dx,hds1,hdx⟩ : ∃dx,ds1=[dx]∧dx.i=x:=by
            rw [hl1e] at hd1 hi1
            cases ds1 with
            | nil=>simp at hd1
            | cons d0 ds1=>
              cases ds1 with
              | nil=>exact ⟨d0,rfl,by simpa using hi1⟩
              | cons _ _=>simp at hd1
           subst hds1
           subst hl1e
           obtain ⟨fuel',rfl⟩ : ∃f',fuel=f'+1:=⟨fuel-1,by simp at hlen;omega⟩
           cases hT with
           | cons g1 hT2=>
             cases hT2 with
             | cons g2 hT3=>
               cases hT3
               obtain ⟨K,q,hK,hKm,hKc⟩:=hpt _ _ _ _ g1 hbx
               obtain ⟨J',q',hJ',hJm,_⟩:=hpt _ _ _ _ g2 hby
               rw [hJ] at hJ'
               simp only [Option.some.injEq,Prod.mk.injEq] at hJ'
               obtain ⟨rfl,_⟩:=hJ'
               have hKJ:=hap dx (by simp) hdx K q hK hKm hKc hJm
               have hxs:x<ops.size:=hxr _ (by simp)
               have ho1 : ∀z,z<ops.size→z≠x→(listed.setIfInBounds j true).getD z true=true:=fun z hz hne=>by
                by_cases hzj:z=j
                · subst hzj;exact self _ _ (by omega)
                · rw [dset _ _ _ hzj];exact hlisted z hz (by simp;omega)
               have ho2 : ∀z,z<ops.size→z≠x→(listed.setIfInBounds j true).getD z false=true:=fun z hz hne=>by
                have h:=ho1 z hz hne
                have hin:z<(listed.setIfInBounds j true).size:=by simp;omega
                simp only [Array.getD_eq_getD_getElem?,Array.getElem?_eq_getElem hin,Option.getD_some] at h ⊢
                exact h
               refine wpOp_mono (fun a1 w1 h1=>lastStep _ x fuel' a1 w1 (by simp [hsz]) hxs (by rw [dset _ _ _ (by omega)];exact ((hl x).1 (by simp)).2) ho1 ho2 h1) (hpo x j s _ _ dx dy K q J g1 g2 hbx hby hK hJ hKJ a w hr (wpAny P .any ops Q fuel' ((listed.setIfInBounds j true).setIfInBounds x true)) fun a2 w2 h2 => ?_)
               refine wpAny_done (fun z hz => ?_) (hq _ (St.like.refl _) a2 w2 h2) _
               by_cases h1:z=x
               · subst h1;exact self _ _ (by simp;omega)
               · rw [dset _ _ _ h1];exact ho1 z hz h1
         · obtain ⟨du,dx,hds1,hdu,hdx⟩ : ∃du dx,ds1=[du,dx]∧du.i=u∧dx.i=x:=by
            rw [hl1e] at hd1 hi1
            cases ds1 with
            | nil=>simp at hd1
            | cons d0 ds1=>
              cases ds1 with
              | nil=>simp at hd1
              | cons d1 ds1=>
                cases ds1 with
                | nil=>simp at hi1;exact ⟨d0,d1,rfl,hi1.1,hi1.2⟩
                | cons _ _=>simp at hd1
           subst hds1
           subst hl1e
           obtain ⟨fuel',rfl⟩ : ∃f',fuel=f'+1+1:=⟨fuel-2,by simp at hlen;omega⟩
           cases hT with
           | cons g0 hT1=>
             cases hT1 with
             | cons g1 hT2=>
               cases hT2 with
               | cons g2 hT3=>
                 cases hT3
                 obtain ⟨K,q,hK,hKm,hKc⟩:=hpt _ _ _ _ g1 hbx
                 obtain ⟨J',q',hJ',hJm,_⟩:=hpt _ _ _ _ g2 hby
                 rw [hJ] at hJ'
                 simp only [Option.some.injEq,Prod.mk.injEq] at hJ'
                 obtain ⟨rfl,_⟩:=hJ'
                 have hKJ:=hap dx (by simp) hdx K q hK hKm hKc hJm
                 have hxs:x<ops.size:=hxr _ (by simp)
                 have hus:u<ops.size:=hxr _ (by simp)
                 have ho0 : ∀z,z<ops.size→z≠u→z≠x→(listed.setIfInBounds j true).getD z true=true:=fun z hz hn1 hn2=>by
                  by_cases hzj:z=j
                  · subst hzj;exact self _ _ (by omega)
                  · rw [dset _ _ _ hzj];exact hlisted z hz (by simp;omega)
                 have toF : ∀(L:Array Bool),L.size=ops.size → ∀z,z<ops.size→L.getD z true=true→L.getD z false=true:=fun L hL z hz h=>by
                  have hin:z<L.size:=by omega
                  simp only [Array.getD_eq_getD_getElem?,Array.getElem?_eq_getElem hin,Option.getD_some] at h ⊢
                  exact h
                 have hju:u≠j:=by omega
                 have hjx:x≠j:=by omega
                 have hLu:(listed.setIfInBounds j true).getD u true=false:=by rw [dset _ _ _ hju];exact ((hl u).1 (by simp)).2
                 have hLx:(listed.setIfInBounds j true).getD x true=false:=by rw [dset _ _ _ hjx];exact ((hl x).1 (by simp)).2
                 have ho1 : ∀z,z<ops.size→z≠x→((listed.setIfInBounds j true).setIfInBounds u true).getD z true=true:=fun z hz hne=>by
                  by_cases hzu:z=u
                  · subst hzu;exact self _ _ (by simp;omega)
                  · rw [dset _ _ _ hzu];exact ho0 z hz hzu hne
                 refine wpOp_mono (fun a1 w1 h1 => ?_) (hto u x j s _ _ _ du dx dy K q J g0 g1 g2 hidx hbx hby hK hJ hKJ a w hr (wpAny P .any ops Q fuel' (((listed.setIfInBounds j true).setIfInBounds u true).setIfInBounds x true)) fun a2 w2 h2 => ?_)
                 · have h2:=wpOp_mono (fun a2 w2 h2=>lastStep ((listed.setIfInBounds j true).setIfInBounds u true) x fuel' a2 w2 (by simp [hsz]) hxs (by rw [dset _ _ _ (by omega)];exact hLx) ho1 (fun z hz hne=>toF _ (by simp [hsz]) z hz (ho1 z hz hne)) h2) h1
                   refine ⟨fun hemp => ?_,fun i hi => ?_⟩
                   · exfalso
                     have:u∈Region.ready .any ops (listed.setIfInBounds j true):=mem_ready.2 ⟨hLu,ops[u],by simp [hus],fun e he hb=>by
                      have he0:=edgesOk_spec hed u ops[u] (by simp [hus]) e (by simpa using he) hb
                      exact toF _ (by simp [hsz]) _ (by omega) (ho0 e.on (by omega) (by omega) (by omega))⟩
                     rw [hemp] at this;simp at this
                   · obtain ⟨q1,o',q2,q3⟩:=mem_ready.1 hi
                     have hi1:=(Array.getElem?_eq_some_iff.1 q2).1
                     have:i=u:=by
                      apply Classical.byContradiction
                      intro hne
                      by_cases hix:i=x
                      · subst hix
                        obtain ⟨o2,e,r1,r2,r3,r4⟩:=idxQ_edge hidx
                        rw [q2] at r1;obtain rfl:=Option.some.inj r1
                        have:=q3 e (by simpa using r2) r3
                        rw [r4] at this
                        have hin:u<(listed.setIfInBounds j true).size:=by simp;omega
                        simp only [Array.getD_eq_getD_getElem?,Array.getElem?_eq_getElem hin,Option.getD_some] at this hLu
                        rw [hLu] at this;simp at this
                      · rw [ho0 i hi1 hne hix] at q1;simp at q1
                     subst this
                     exact h2
                 · refine wpAny_done (fun z hz => ?_) (hq _ (St.like.refl _) a2 w2 h2) _
                   by_cases h1:z=x
                   · subst h1;exact self _ _ (by simp;omega)
                   · rw [dset _ _ _ h1];exact ho1 z hz h1
       have hfree : ∀x∈ds1,freeOk ops x dy=true:=by
        intro x hx
        have hp:=(List.pairwise_append.1 hord).2.2 x hx dy (List.mem_cons_self ..)
        rcases hp with hb|hf|hf|hf
        · exact (hnb x.i (by rw [←hi1];exact List.mem_map.2 ⟨x,hx,rfl⟩) (by rw [←hiy];exact hb)).elim
        · exact hf
        · exact absurd ⟨x,hx,.inl hf⟩ hlate
        · exact absurd ⟨x,hx,.inr hf⟩ hlate
       obtain ⟨t1,dy',hy,hyy,ds',t2,hT',hl2,hle⟩:=hT.front hm hd1.symm hfree
       refine hop j s t1 dy' hy a w hr _ fun a' w' hr'=>ih (listed.setIfInBounds j true) (l1++l2) t1 t2 ds' a' w' hT' ?_ ?_ ?_ (by simp [hsz]) ?_ ?_ hr' (fun t ht=>hq t (hl2.trans ht))
       · refine hle.ord (hord.sublist ?_)
         exact List.Sublist.append (List.Sublist.refl _) (List.sublist_cons_self ..)
       · exact hlt.sublist (List.Sublist.append (List.Sublist.refl _) (List.sublist_cons_self ..))
       · intro k
         by_cases hkj:k=j
         · subst hkj
           have h1:k∉l1++l2:=by
            intro hk
            have hpw:=List.pairwise_append.1 hlt
            rcases List.mem_append.1 hk with hk|hk
            · have:=hpw.2.2 k hk k (List.mem_cons_self ..);omega
            · have:=(List.pairwise_cons.1 hpw.2.1).1 k hk;omega
           have hin:=((hl k).1 hjl).1
           have:(listed.setIfInBounds k true).getD k true=true:=by
            simp [hsz,hin]
           simp [h1,this]
         · rw [Go.getD_set_ne true (Ne.symm hkj),←hl k]
           simp only [List.mem_append,List.mem_cons,hkj,false_or]
       · intro i q hq2 hlq e he hb
         by_cases hij:i=j
         · subst hij
           have:q=o:=by
            have:ops[i]? = some q:=by simpa using hq2
            rw [this] at hj2;exact Option.some.inj hj2
           subst this
           exact Go.getD_set_true (hj3 e (by simpa using he) hb)
         · rw [Go.getD_set_ne false (Ne.symm hij)] at hlq
           exact Go.getD_set_true (hsh i q hq2 hlq e he hb)
       · simp only [List.length_append,List.length_cons] at hlen ⊢;omega
end
end Go.VK
namespace Go.VK
open AVal
structure Fr where
 w0:World
 fz0:Nat→Prop
 al:Nat→Prop
 R0:RM
 nt:Nat
structure FRel (X:Fr) (s:St) (a:Act) (w:World):Prop where
 rel : ∃fz R F,Rel w fz X.al s.env a.tmps s.obj R F∧(∀b,X.fz0 b→fz b)∧(∀b,fz b→X.fz0 b∨X.al b) ∧ ∀K,passBase≤K→R K=X.R0 K
 keep:Keep X.w0 X.al w
 defers:a.defers=[]
 size:a.tmps.size=X.nt
theorem St.obj_like {s t:St} (h:s.like t):t.obj=s.obj:=funext fun K=>h.2 K
theorem Rel.like {w:World} {fz al:Nat→Prop} {s t:St} {tm:Array Value} {R:RM} {F:Nat→Foot} (h:Rel w fz al s.env tm s.obj R F) (hl:s.like t):Rel w fz al t.env tm t.obj R F:=by
 rw [St.obj_like hl]
 exact ⟨fun x v hv=>h.env x v (by rw [←hl.1];exact hv),h.obj,h.one,h.dis,h.own,h.lt⟩
theorem FRel.like {X:Fr} {s t:St} {a:Act} {w:World} (h:FRel X s a w) (hl:s.like t):FRel X t a w:=by
 obtain ⟨⟨fz,R,F,h1,h2⟩,h3,h4,h5⟩:=h
 exact ⟨⟨fz,R,F,h1.like hl,h2⟩,h3,h4,h5⟩
theorem Rel.forget {w:World} {fz al:Nat→Prop} {s:St} {tm:Array Value} {R:RM} {F:Nat→Foot} (h:Rel w fz al s.env tm s.obj R F) (ks:List Nat):Rel w fz al (s.forget ks).env tm (s.forget ks).obj R F:=by
 have hf:(fun v:AVal=>ks.any fun K=>mem K v.keys)=AVal.dead ks [] []:=by funext v;simp [AVal.dead]
 let e:Eff:={ cond:=true,calm:=false,v:=none,objs:=[],ka:=ks }
 have hj:s.forget ks={ s.join ks none e with ka:=s.ka,ki:=s.ki,kr:=s.kr }:=by
  simp only [St.forget,St.join,e,hf,killObjs,List.nil_append]
 have he:EffOK w fz al s.obj R ks e w fz R F:=by
  have ht:=h.toO
  refine ⟨⟨fun K o ho => ?_,fun K o ho => ?_,fun K o J u hne ho hu => ?_,fun K o ho => ?_,ht.g1,fun _ _ _ _=>.inr rfl,ht.go,h.lt⟩,fun K o ho=>by simp [e,lk] at ho,fun b hb=>⟨hb,rfl⟩,⟨fun K u hu hk=>⟨u,?_,rfl,fun _=>rfl,fun _ p l hw=>⟨hw,rfl⟩⟩⟩,Keep.refl w al⟩
  · simp only [Mix] at ho;split at ho
    · simp [e,lk] at ho
    · exact h.obj K o ho
  · simp only [Mix] at ho;split at ho
    · simp [e,lk] at ho
    · exact h.one K o ho
  · simp only [Mix] at ho hu;split at ho
    · simp [e,lk] at ho
    · split at hu
      · simp [e,lk] at hu
      · exact h.dis K o J u hne ho hu
  · simp only [Mix] at ho;split at ho
    · simp [e,lk] at ho
    · exact h.own K o ho
  · have hk':K∉ks:=hk
    simp only [Mix,if_neg hk'];exact hu
 have:=join_rel h he none tm rfl (fun _ _=>rfl) (fun d hd=>by simp at hd) (fun d v hd=>by simp at hd)
 rw [hj]
 exact this
theorem FRel.forget {X:Fr} {s:St} {a:Act} {w:World} (h:FRel X s a w) (ks:List Nat):FRel X (s.forget ks) a w:=by
 obtain ⟨⟨fz,R,F,h1,h2⟩,h3,h4,h5⟩:=h
 exact ⟨⟨fz,R,F,h1.forget ks,h2⟩,h3,h4,h5⟩
theorem hdOf_heap {w w':World} (h:w'.heap=w.heap) (l:Loc):hdOf w' l=hdOf w l:=by
 cases l <;> simp [hdOf,World.cell?,h]
theorem walk_heap {w w':World} (h:w'.heap=w.heap) : ∀(p:List Nat) (x:AVal) (l:Loc),walk w' x l p=walk w x l p
 | [],x,l=>by rw [walk_nil,walk_nil]
 | i::p,x,l=>by
   cases x <;> cases l <;> simp only [walk,hdOf_heap h,walk_heap h p]
theorem Rel.heap {w w':World} {fz al:Nat→Prop} {s:St} {tm:Array Value} {R:RM} {F:Nat→Foot} (h:Rel w fz al s.env tm s.obj R F) (hh:w'.heap=w.heap):Rel w' fz al s.env tm s.obj R F:=by
 have hE:keepE (AVal.dead [] [] []) (EvR w s.obj R) (EvR w' s.obj R):=
  Stab.keepE (ka:=[]) (ki:=[]) (kr:=[]) ⟨fun K u hu _=>⟨u,hu,rfl,fun _=>hdOf_heap hh _,fun _ p l hw=>⟨by rw [walk_heap hh];exact hw,hdOf_heap hh _⟩⟩⟩
 refine ⟨fun t v hv=>⟨(h.env t v hv).1,?_⟩,fun K o ho => ?_,h.one,h.dis,h.own,fun b hb=>by rw [hh];exact h.lt b hb⟩
 · have:=EvV.kill (k:=AVal.dead [] [] []) hE (fun b hb=>⟨hb,by rw [hh]⟩) v _ (h.env t v hv).2
   rwa [kill_nil] at this
 · have:=OwO.kill (k:=AVal.dead [] [] []) hE (fun b hb=>⟨hb,by rw [hh]⟩) (fun b _=>by rw [hh]) (h.obj K o ho)
   rw [kill_nil] at this
   exact this
theorem FRel.drawn {X:Fr} {s:St} {a:Act} {w:World} (h:FRel X s a w):FRel X s a { w with drawn:=w.drawn+1 }:=by
 obtain ⟨⟨fz,R,F,h1,h2⟩,h3,h4,h5⟩:=h
 exact ⟨⟨fz,R,F,h1.heap rfl,h2⟩,⟨h3.os,h3.tape,h3.output,h3.size,h3.block⟩,h4,h5⟩
def stepF (Φ:Ctx) (C:Oracle) (ops:Array Oper) (i:Nat) (t:St):Option (St×Done):=
 match ops[i]? with
 | some o=>vop Φ C ops o i t mk2
 | none=>none
theorem runOp_i {Φ:Ctx} {C:Oracle} {o:Oper} {i:Nat} {s s':St} {d:Done} (h:runOp Φ C o i s mk2=some (s',d)):d.i=i:=by
 cases hx:isExtract o.op with
 | false=>
   cases hpl:plainQ Φ s o with
   | true=>
     obtain ⟨q,dd,hq,hd⟩:=plainQ_some hpl
     rw [runOp_look hx hq hd] at h
     cases he:calm Φ s o dd with
     | none=>rw [he] at h;simp at h
     | some e=>
       rw [he] at h
       simp only [Option.bind_some] at h
       cases hc:(e.cond&&e.o.isNone) with
       | false=>rw [hc] at h;simp at h
       | true=>
         rw [hc] at h
         simp only [cond_true,mk2,Option.some.injEq,Prod.mk.injEq] at h
         rw [←h.2];rfl
   | false=>
   rw [runOp_plain hx hpl] at h
   cases he:effOf Φ C (s.part o.op) o with
   | none=>rw [he] at h;simp at h
   | some e=>
     rw [he] at h
     simp only [Option.bind_some] at h
     cases hc:okOp Φ s o e with
     | false=>rw [hc] at h;simp at h
     | true=>
       rw [hc] at h
       simp only [cond_true,mk2,Option.some.injEq,Prod.mk.injEq] at h
       rw [←h.2];rfl
 | true=>
   unfold runOp at h
   split at h
   · split at h
     · rename_i vs dd _ _
       cases hb:(Nat.blt _ vs.length&&noUnd (vs.getD _ .und)) with
       | false=>rw [hb] at h;simp at h
       | true=>
         rw [hb] at h
         simp only [cond_true,mk2,Option.some.injEq,Prod.mk.injEq] at h
         rw [←h.2]
     · simp at h
   · rename_i hne
     cases ho:o.op with
     | extract x j=>
       cases x with
       | tmp t=>exact absurd ho (hne t j)
       | _=>rw [ho] at hx;simp [isExtract] at hx
     | _=>rw [ho] at hx;simp [isExtract] at hx
theorem skipOp_i {o:Oper} {i:Nat} {s s':St} {d:Done} (h:skipOp o i s mk2=some (s',d)):d.i=i:=by
 simp only [skipOp,mk2,Option.some.injEq,Prod.mk.injEq] at h
 rw [←h.2]
theorem vop_i {Φ:Ctx} {C:Oracle} {ops:Array Oper} {o:Oper} {i:Nat} {s s':St} {d:Done} (h:vop Φ C ops o i s mk2=some (s',d)):d.i=i:=by
 unfold vop at h
 cases hg:o.guard with
 | none=>rw [hg] at h;exact runOp_i h
 | some jw=>
   obtain ⟨j,want⟩:=jw
   rw [hg] at h
   dsimp only at h
   cases hd:dstOf ops j with
   | none=>rw [hd] at h;simp at h
   | some g=>
     rw [hd] at h
     dsimp only at h
     split at h
     · rename_i b hb
       cases b <;> cases want <;> simp only [cond_true,cond_false] at h <;> first|exact runOp_i h|exact skipOp_i h
     · exact skipOp_i h
     · simp at h
theorem stepF_i {Φ:Ctx} {C:Oracle} {ops:Array Oper} {i:Nat} {s s':St} {d:Done} (h:stepF Φ C ops i s=some (s',d)):d.i=i:=by
 unfold stepF at h
 cases ho:ops[i]? with
 | none=>rw [ho] at h;simp at h
 | some o=>rw [ho] at h;exact vop_i h
theorem kill_ptr {b:AVal→Bool} {v:AVal} {K:Nat} {p:List Nat} {off:Option Nat} (h:killV b v=.ptr K p off):v=.ptr K p off:=by
 cases v with
 | ptr J q o=>simp only [killV] at h;cases hk:b (.ptr J q o) <;> simp [hk] at h ⊢;exact h
 | ref J q=>simp only [killV] at h;cases hk:b (.ref J q) <;> simp [hk] at h
 | clo f cs=>simp only [killV] at h;cases hk:b (.clo f cs) <;> simp [hk] at h
 | _=>simp_all [killV]
theorem stepF_moves {Φ:Ctx} {C:Oracle} (hC:CalmOK Φ C) (ops:Array Oper):Moves ops (stepF Φ C ops):=by
 intro i s s' d h
 unfold stepF at h
 cases ho:ops[i]? with
 | none=>rw [ho] at h;simp at h
 | some o=>
   rw [ho] at h
   refine ⟨vop_i h,?_⟩
   have:=vop_stp hC ho h
   have hd:dstOf ops i=o.dst:=by simp [dstOf,ho]
   rw [hd]
   have hf:stepF Φ C ops i=fun t=>vop Φ C ops o i t mk2:=by funext t;simp [stepF,ho]
   rw [hf]
   exact this
theorem vops_tr {R:Type} {Φ:Ctx} {C:Oracle} {ops:Array Oper} {k:St→List Done→Option R} {r:R} : ∀{l:List Oper} {i:Nat} {s:St} {ds:List Done},vops Φ C ops l i s ds k=some r→(∀j,l[j]? = ops[i+j]?) →
 ∃ds' s2,Tr (stepF Φ C ops) (List.range' i l.length) s ds' s2∧k s2 (ds'.reverse++ds)=some r
 | [],i,s,ds,h,_=>⟨[],s,.nil s,h⟩
 | o::l,i,s,ds,h,hops=>by
   simp only [vops] at h
   obtain ⟨s',d,h1,h2⟩:=vop_inv h
   obtain ⟨ds',s2,h3,h4⟩:=vops_tr h2 (fun j=>by have:=hops (j+1);simpa [Nat.add_assoc,Nat.add_comm 1 j] using this)
   refine ⟨d::ds',s2,.cons (s1:=s') ?_ h3,by simpa using h4⟩
   have:=hops 0
   simp only [List.getElem?_cons_zero,Nat.add_zero] at this
   simp only [stepF,←this];exact h1
theorem orderOk_pair {ops:Array Oper} {bf:List Nat} : ∀{l:List Done},orderOk ops bf l=true→l.reverse.Pairwise (OrdP ops bf)
 | [],_=>.nil
 | y::r,h=>by
   simp only [orderOk,Bool.and_eq_true,List.all_eq_true,Bool.or_eq_true] at h
   rw [List.reverse_cons,List.pairwise_append]
   refine ⟨orderOk_pair h.2,List.pairwise_singleton ..,fun x hx z hz => ?_⟩
   rw [List.mem_singleton] at hz;subst hz
   exact h.1 x (List.mem_reverse.1 hx)
theorem vregion_ok {R:Type} {P:Program} {Φ:Ctx} {C:Oracle} (hC:CalmOK Φ C) (hmix:P.follows .mixedOrders=true) {X:Fr} {ops:Array Oper} {Q:Exit→Act→World→Prop}
 (hop:StepsOK P ops Q (FRel X) (stepF Φ C ops)) (hpt:PtrOK ops (stepF Φ C ops)) (hpo:PairsOK P ops Q (FRel X) (stepF Φ C ops)) (hto:TriplesOK P ops Q (FRel X) (stepF Φ C ops)) {id:Nat} {draw:Bool} {s:St} {k:St→Option R} {r:R} (h:vregion Φ C ops draw s k=some r)
 {a:Act} {w:World} (hr:FRel X s a w) (hq : ∀s',k s'=some r → ∀a w,FRel X s' a w→Q .normal a w):(Code.region id ops draw).wp P Q a w:=by
 unfold vregion at h
 obtain ⟨ds,s2,hT,hk⟩:=vops_tr h (fun j=>by simp)
 have hlen:ops.toList.length=ops.size:=by simp
 rw [hlen] at hT
 have hr0:=hr.forget (makers Φ ops.toList)
 cases draw with
 | false=>
   simp only [cond_false] at hk
   refine wp_region ?_
   rw [List.range_eq_range']
   exact tr_wpOps hop hT (fun a w h=>hq s2 hk a w h) a w hr0
 | true=>
   simp only [cond_true] at hk
   cases hb:(edgesOk ops.toList 0&&orderOk ops (ancs ops.toList []) (ds.reverse++[])) with
   | false=>rw [hb] at hk;simp at hk
   | true=>
     rw [hb] at hk
     simp only [cond_true] at hk
     simp only [Bool.and_eq_true,List.append_nil] at hb
     refine wp_region_any hmix ?_
     refine tr_wpAny hop hpt hpo hto (stepF_moves hC ops) hb.1 ops.size (Array.replicate ops.size false) (List.range' 0 ops.size) _ s2 ds a _ hT ?_ ?_ ?_ (by simp) ?_ (by simp) hr0.drawn ?_
     · have:=orderOk_pair hb.2;simpa using this
     · exact List.pairwise_lt_range'
     · intro j
       simp only [List.mem_range'_1,Nat.zero_le,true_and,Nat.zero_add]
       constructor
       · intro hj;exact ⟨hj,by simp [hj]⟩
       · exact fun hj=>hj.1
     · intro i o _ hl
       exfalso
       simp only [Array.getD_eq_getD_getElem?,Array.getElem?_replicate] at hl
       split at hl <;> simp at hl
     · intro t ht a w hrt
       exact hq s2 hk a w (hrt.like ht.symm)
end Go.VK
namespace Go.VK
open AVal
def zOK:CT→Value→Bool
 | .bool,.bool b => !b
 | .int k,.int j n=>decide (k=j)&&decide (n=0)
 | .str,.string s=>s.data.toList.isEmpty
 | .slice _,.slice none 0 0=>true
 | .ptr,.pointer none=>true
 | .oth,.agg _=>false
 | .oth,.tuple _=>false
 | .oth,_=>true
 | _,_=>false
def zsOK:List CT→List Value→Bool
 | [],[]=>true
 | c::cs,v::vs=>zOK c v&&zsOK cs vs
 | _,_=>false
def offsOK (P:Program):List (Nat×Nat)→List Field→Bool
 | [],[]=>true
 | (k,u)::os,f::fs=>Nat.beq f.offset k&&(Nat.beq f.type u&&((match P.info? u with|some i=>Nat.blt 0 i.size|none=>false)&&offsOK P os fs))
 | _,_=>false
def ctOf:TypeDesc→CT→Bool
 | .bool,.bool=>true
 | .int k,.int j=>decide (k=j)
 | .string,.str=>true
 | .pointer _,.ptr=>true
 | .pointer _,.oth=>true
 | .map _ _,.oth=>true
 | .func _ _ _,.oth=>true
 | .interface _,.oth=>true
 | .float _,.oth=>true
 | .unsafePointer,.oth=>true
 | .chan _ _,.oth=>true
 | .tuple _,.oth=>true
 | _,_=>false
def descOK (P:Program) (T:TI) (d:TypeDesc):Bool:=
 match d with
 | .struct fs=>T.agg&&(offsOK P T.offs fs.toList&&T.elem.isNone)
 | .array _ e=>T.agg&&(T.offs.isEmpty&&T.elem.isNone&&(P.info? e).isSome)
 | .slice e => !T.agg&&(T.offs.isEmpty&&decide (T.elem=some e)&&match T.cts,P.info? e with|[.slice n],some i=>Nat.beq n i.size|_,_=>false)
 | .map k e => !T.agg&&(T.offs.isEmpty&&decide (T.cts=[.oth])&&((T.key.isNone&&T.elem.isNone)||(decide (T.key=some k)&&decide (T.elem=some e))))
 | d => !T.agg&&(T.offs.isEmpty&&T.elem.isNone&&match T.cts with|[c]=>ctOf d c|_=>false)
def zForm (g:Bool):Value→Bool|.agg _=>g|_ => !g
def tokB (P:Program) (t:Nat) (T:TI):Bool:=
 match P.info? t,P.underlying t with
 | some i,some d=>Nat.beq i.size T.cts.length&&(Nat.beq i.bytes T.bytes&&((match i.zero with|some z=>zsOK T.cts z.cells.toList&&zForm T.agg z|none=>false)&&descOK P T d))
 | _,_=>false
structure ExtIdx (P:Program) (f:Nat):Prop where
 it : ∃fn:Func,P.funcs[f]? = some fn∧(fn.name == "runtime.NumGoroutine")=false∧fn.body.isNone=true∧Extern.findNext fn=none∧Extern.find fn=some Extern.BytealgIndexByte.indexByte
def eqFB (P:Program):Nat→List Field→List CT→Bool
 | _,[],[]=>true
 | i,f::fs,c::cs=>decide (f.name ≠ "_")&&(Nat.beq f.offset i&&((match P.underlying f.type,c with|some (.int _),.int _=>true|some .string,.str=>true|some .bool,.bool=>true|_,_=>false)&&eqFB P (i+1) fs cs))
 | _,_,_=>false
def eqTB (P:Program) (t:Nat) (cs:List CT):Bool:=
 (match P.underlying t with|some (.struct fs)=>eqFB P 0 fs.toList cs|_=>false)&&(!P.stoodInHeld t && !P.eqGuardType P.depth t)
def keyFB (P:Program):Nat→List Field→List CT→Bool
 | _,[],[]=>true
 | i,f::fs,c::cs=>decide (f.name ≠ "_")&&(Nat.beq f.offset i&&(Nat.beq (P.cellsOf f.type) 1&&((match P.underlying f.type,c with|some (.int q),.int k=>decide (q=k)|some .string,.str=>true|_,_=>false)&&keyFB P (i+1) fs cs)))
 | _,_,_=>false
def keyTB (P:Program) (t:Nat) (cs:List CT):Bool:=
 (match P.underlying t with|some (.struct fs)=>keyFB P 0 fs.toList cs|_=>false)&&(P.keyType t&&(P.keyTypeAt 2 t&&(P.tiled 2 t&&(Nat.beq (P.cellsOf t) cs.length&&Nat.blt 0 P.types.size))))
structure TOK (P:Program) (Φ:Ctx):Prop where
 ty : ∀t T,Φ.ti t=some T→tokB P t T=true
 ix : ∀f,Φ.idxB=some f→ExtIdx P f
 eq : ∀t cs,lk Φ.eqs t=some cs→eqTB P t cs=true
 ky : ∀t m,lk Φ.keys t=some m→keyTB P t (keyCs m)=true
theorem lk_all {α:Type} {f:Nat→α→Bool} : ∀{l:List (Nat×α)},(l.all fun x=>f x.1 x.2)=true → ∀t T,lk l t=some T→f t T=true:=by
 intro l h t T ht
 rw [List.all_eq_true] at h
 exact h _ (lk_in ht)
structure TF (P:Program) (t:Nat) (T:TI):Prop where
 info : ∃i d z,P.info? t=some i∧P.underlying t=some d∧i.size=T.cts.length∧i.bytes=T.bytes∧i.zero=some z∧zsOK T.cts z.cells.toList=true∧descOK P T d=true
 form : ∀i z,P.info? t=some i→i.zero=some z→zForm T.agg z=true
theorem TOK.tf {P:Program} {Φ:Ctx} (h:TOK P Φ) {t:Nat} {T:TI} (ht:Φ.ti t=some T):TF P t T:=by
 have:=h.ty t T ht
 unfold tokB at this
 cases hi:P.info? t with
 | none=>rw [hi] at this;simp at this
 | some i=>
   cases hd:P.underlying t with
   | none=>rw [hi,hd] at this;simp at this
   | some d=>
     rw [hi,hd] at this
     simp only [Bool.and_eq_true] at this
     obtain ⟨h1,h2,h3,h4⟩:=this
     cases hz:i.zero with
     | none=>rw [hz] at h3;simp at h3
     | some z=>
       rw [hz] at h3
       simp only [Bool.and_eq_true] at h3
       exact ⟨⟨i,d,z,hi,hd,Nat.eq_of_beq_eq_true h1,Nat.eq_of_beq_eq_true h2,hz,h3.1,h4⟩,fun i' z' hi' hz'=>by rw [hi] at hi';obtain rfl:=Option.some.inj hi';rw [hz] at hz';obtain rfl:=Option.some.inj hz';exact h3.2⟩
theorem TF.size {P:Program} {t:Nat} {T:TI} (h:TF P t T) (w:World):(sizeOf t).run P w=.ok T.cts.length w:=by
 obtain ⟨i,d,z,h1,h2,h3,_⟩:=h.info
 simp [sizeOf,typeInfo,h1,h3]
theorem run_und {P:Program} {t:Nat} {d:TypeDesc} (h:P.underlying t=some d) (w:World):(underlying t).run P w=.ok d w:=by
 simp [underlying,h]
theorem TF.isAgg {P:Program} {t:Nat} {T:TI} (h:TF P t T) (w:World):(Go.isAgg t).run P w=.ok T.agg w:=by
 obtain ⟨i,d,z,h1,h2,h3,h4,h5,h6,h7⟩:=h.info
 simp only [Go.isAgg,Sem.run_bind,run_und h2,Result.andThen_ok]
 cases d <;> simp [descOK] at h7 <;> simp [h7]
theorem TF.zero {P:Program} {t:Nat} {T:TI} (h:TF P t T) : ∃z:Value,(∀w,(zeroValue t).run P w=.ok z w)∧zsOK T.cts z.cells.toList=true∧z.cells.size=T.cts.length:=by
 obtain ⟨i,d,z,h1,h2,h3,h4,h5,h6,h7⟩:=h.info
 refine ⟨z,fun w=>by simp [zeroValue,typeInfo,h1,h5],h6,?_⟩
 have : ∀(cs:List CT) (vs:List Value),zsOK cs vs=true→vs.length=cs.length:=by
  intro cs
  induction cs with
  | nil=>intro vs h;cases vs <;> simp [zsOK] at h ⊢
  | cons c cs ih=>intro vs h;cases vs <;> simp [zsOK] at h ⊢;exact ih _ h.2
 simpa using this _ _ h6
theorem TF.one {P:Program} {t:Nat} {T:TI} (h:TF P t T) (ha:T.agg=false) : ∃c,T.cts=[c]:=by
 obtain ⟨i,d,z,h1,h2,h3,h4,h5,h6,h7⟩:=h.info
 cases hc:T.cts with
 | nil=>exfalso;cases d <;> simp [descOK,ha,hc] at h7
 | cons c cs=>
   cases cs with
   | nil=>exact ⟨c,rfl⟩
   | cons c' cs=>exfalso;cases d <;> simp [descOK,ha,hc] at h7
theorem TF.slice {P:Program} {t:Nat} {T:TI} {sz:Nat} (h:TF P t T) (ha:T.agg=false) (hc:T.cts=[.slice sz]) : ∃e i,P.underlying t=some (.slice e)∧T.elem=some e∧P.info? e=some i∧i.size=sz:=by
 obtain ⟨i,d,z,h1,h2,h3,h4,h5,h6,h7⟩:=h.info
 cases d with
 | slice e=>
   simp only [descOK,ha,hc] at h7
   cases hi:P.info? e with
   | none=>rw [hi] at h7;simp at h7
   | some j=>
     rw [hi] at h7;simp at h7
     exact ⟨e,j,h2,h7.1.2,hi,h7.2.symm⟩
 | _=>simp [descOK,ha,hc,ctOf] at h7
theorem TF.fields {P:Program} {t:Nat} {T:TI} {f k u:Nat} (h:TF P t T) (hf:T.offs[f]? = some (k,u)) : ∃fs g,P.underlying t=some (.struct fs)∧fs[f]? = some g∧g.offset=k∧g.type=u∧(∃i,P.info? u=some i∧0<i.size):=by
 obtain ⟨i,d,z,h1,h2,h3,h4,h5,h6,h7⟩:=h.info
 have key : ∀(os:List (Nat×Nat)) (fs:List Field) (f:Nat),offsOK P os fs=true→os[f]? = some (k,u) → ∃g,fs[f]? = some g∧g.offset=k∧g.type=u∧(∃i,P.info? u=some i∧0<i.size):=by
  intro os
  induction os with
  | nil=>intro fs f _ hf;simp at hf
  | cons p os ih=>
    intro fs f ho hf
    obtain ⟨k',u'⟩:=p
    cases fs with
    | nil=>simp [offsOK] at ho
    | cons g fs=>
      simp only [offsOK,Bool.and_eq_true] at ho
      cases f with
      | zero=>
        simp only [List.getElem?_cons_zero,Option.some.injEq,Prod.mk.injEq] at hf
        obtain ⟨rfl,rfl⟩:=hf
        refine ⟨g,rfl,Nat.eq_of_beq_eq_true ho.1,Nat.eq_of_beq_eq_true ho.2.1,?_⟩
        cases hi:P.info? k' with
        | _=>
          have:=ho.2.2.1
          cases hi2:P.info? u' with
          | none=>rw [hi2] at this;simp at this
          | some j=>rw [hi2] at this;exact ⟨j,rfl,by simpa using this⟩
      | succ f=>exact ih fs f ho.2.2.2 (by simpa using hf)
 cases d with
 | struct fs=>
   simp only [descOK,Bool.and_eq_true] at h7
   obtain ⟨g,hg,h8⟩:=key T.offs fs.toList f h7.2.1 hf
   exact ⟨fs,g,h2,by simpa using hg,h8⟩
 | array _ _=>
   simp only [descOK,Bool.and_eq_true,List.isEmpty_iff] at h7
   rw [h7.2.1.1] at hf;simp at hf
 | _=>
   simp only [descOK,Bool.and_eq_true,List.isEmpty_iff] at h7
   rw [h7.2.1.1] at hf;simp at hf
end Go.VK
namespace Go.VK
open AVal
structure Sub (p s:St):Prop where
 env : ∀t v,lk p.env t=some v→lk s.env t=some v
 objs : ∀K o,lk p.objs K=some o→lk s.objs K=some o
theorem part_sub (s:St) (o:Op):Sub (s.part o) s:=⟨fun _t _v h=>(lk_sel _ _ _ _ h).1,fun _K _o h=>(lk_sel _ _ _ _ h).1⟩
section
variable {P:Program} {Φ:Ctx} {w:World} {fz al:Nat→Prop} {p s:St} {a:Act} {R:RM} {F:Nat→Foot}
theorem cval_ok {sz:Nat} {c:Value} {v:AVal} (h:cval sz c=some v):EvV w fz s.obj R v c:=by
 simp only [cval] at h
 split at h
 all_goals first
  | (obtain rfl:=Option.some.inj h;simp only [EvV];done)
  | (obtain rfl:=Option.some.inj h;simp only [EvV])
  | simp at h
theorem cvals_ok : ∀{cts:List CT} {vs:List Value} {xs:List AVal},cvals cts vs=some xs→EvL w fz s.obj R xs vs
 | [],[],xs,h=>by simp only [cvals,Option.some.injEq] at h;subst h;simp [EvL]
 | [],_::_,xs,h=>by simp [cvals] at h
 | _::_,[],xs,h=>by simp [cvals] at h
 | ct::cts,v::vs,xs,h=>by
   simp only [cvals] at h
   split at h
   · rename_i x ys h1 h2
     obtain rfl:=Option.some.inj h
     simp only [EvL]
     exact ⟨v,vs,rfl,cval_ok h1,cvals_ok h2⟩
   · simp at h
theorem constV_ok {T:Nat} {c:Value} {v:AVal} (h:constV Φ T c=some v):EvV w fz s.obj R v c:=by
 unfold constV at h
 split at h
 · rename_i vs
   split at h
   · rename_i I _
     cases hA:I.agg with
     | false=>rw [hA] at h;simp at h
     | true=>
       rw [hA] at h
       simp only [cond_true] at h
       split at h
       · rename_i xs hx
         obtain rfl:=Option.some.inj h
         simp only [EvV]
         exact ⟨vs,rfl,cvals_ok hx⟩
       · simp at h
   · simp at h
 · exact cval_ok h
theorem constV_keys {T:Nat} {c:Value} {v:AVal} (h:constV Φ T c=some v):v.keys=[] ∧ ∀us,v≠.tup us:=by
 have key : ∀{sz:Nat} {c:Value} {v:AVal},cval sz c=some v→v.keys=[] ∧ ∀us,v≠.tup us:=by
  intro sz c v h
  simp only [cval] at h
  split at h
  all_goals first
   | (obtain rfl:=Option.some.inj h;exact ⟨rfl,fun _=>by simp⟩)
   | simp at h
 have keyL : ∀{cts:List CT} {vs:List Value} {xs:List AVal},cvals cts vs=some xs→keysL xs=[]:=by
  intro cts
  induction cts with
  | nil=>intro vs xs h;cases vs <;> simp [cvals] at h;subst h;rfl
  | cons ct cts ih=>
    intro vs xs h
    cases vs with
    | nil=>simp [cvals] at h
    | cons v vs=>
      simp only [cvals] at h
      split at h
      · rename_i x ys h1 h2
        obtain rfl:=Option.some.inj h
        simp only [keysL,(key h1).1,ih h2,List.append_nil]
      · simp at h
 unfold constV at h
 split at h
 · split at h
   · rename_i I _
     cases hA:I.agg with
     | false=>rw [hA] at h;simp at h
     | true=>
       rw [hA] at h
       simp only [cond_true] at h
       split at h
       · rename_i xs hx
         obtain rfl:=Option.some.inj h
         exact ⟨by simp only [AVal.keys];exact keyL hx,fun _=>by simp⟩
       · simp at h
   · simp at h
 · exact key h
theorem ev_ok (hr:Rel w fz al s.env a.tmps s.obj R F) (hp:Sub p s) {T:Nat} {x:Operand} {v:AVal} (h:p.ev Φ T x=some v):EvV w fz s.obj R v (a.eval x):=by
 cases x with
 | tmp t=>
   simp only [St.ev] at h
   split at h
   · simp at h
   · rename_i hne
     obtain rfl:=Option.some.inj h
     exact (hr.env t _ (hp.env t _ (tmp_some rfl hne))).2
 | const c=>
   exact constV_ok h
 | func f=>
   simp only [St.ev,Bool.cond_eq_ite] at h
   split at h
   · simp at h
   · rename_i hb
     simp only [Option.some.injEq] at h;subst h
     simp only [EvV,EvR,Act.eval]
     exact ⟨#[],by unfold cloV;rw [show Nat.ble bndBase f=false by rw [Bool.not_eq_true] at hb;exact hb];rfl,by simp [EvPs]⟩
 | global g=>simp [St.ev] at h
theorem evs_ok (hr:Rel w fz al s.env a.tmps s.obj R F) (hp:Sub p s) : ∀{ts:List Nat} {xs:List Operand} {vs:List AVal},evs Φ p ts xs=some vs→EvL w fz s.obj R vs (xs.map a.eval)
 | ts,[],vs,h=>by simp only [evs,Option.some.injEq] at h;subst h;simp [EvL]
 | [],x::xs,vs,h=>by simp [evs] at h
 | t::ts,x::xs,vs,h=>by
   simp only [evs] at h
   cases h1:p.ev Φ t x with
   | none=>rw [h1] at h;simp at h
   | some v=>
     cases h2:evs Φ p ts xs with
     | none=>rw [h1,h2] at h;simp at h
     | some us=>
       rw [h1,h2] at h
       simp only [Option.some.injEq] at h;subst h
       simp only [List.map_cons,EvL]
       exact ⟨_,_,rfl,ev_ok hr hp h1,evs_ok hr hp h2⟩
def Runs (P:Program) (a:Act) (o:Oper) (w:World) (fz:Nat→Prop) (s:St) (R:RM) (x:AVal):Prop := ∃v,(execOp a.eval o).run P w=.ok (.value v) w∧EvV w fz s.obj R x v
theorem run_v {x:Sem Value} {v:Value} {w w':World} (h:x.run P w=.ok v w'):(do pure (Next.value (←x)):Sem Next).run P w=.ok (.value v) w':=by
 simp [h]
theorem calm_move (hr:Rel w fz al s.env a.tmps s.obj R F) (hp:Sub p s) {o:Oper} {x:Operand} {v:AVal} (ho:o.op=.move x∨o.op=.assign x) (h:p.ev Φ o.type x=some v):Runs P a o w fz s R v:=by
 rcases ho with ho|ho <;> exact ⟨a.eval x,by simp [execOp,ho],ev_ok hr hp h⟩
theorem calm_pick (hr:Rel w fz al s.env a.tmps s.obj R F) (hp:Sub p s) {o:Oper} {c x y:Operand} {b:Bool} {v:AVal} (ho:o.op=.pick c x y) (hc:p.ev Φ 0 c=some (.bool b)) (h:p.ev Φ o.type (if b then x else y)=some v):Runs P a o w fz s R v:=by
 have h1:=ev_ok hr hp hc
 simp only [EvV] at h1
 refine ⟨a.eval (if b then x else y),?_,ev_ok hr hp h⟩
 cases b <;> simp [execOp,ho,h1,asBool]
theorem calm_nilCheck (hr:Rel w fz al s.env a.tmps s.obj R F) (hp:Sub p s) {o:Oper} {x:Operand} {v:AVal} (ho:o.op=.nilCheck x) (h:p.ev Φ 0 x=some v) (hv:(∃K q off,v=.ptr K q off) ∨ ∃z off,v=.rop z off):Runs P a o w fz s R v:=by
 have h1:=ev_ok hr hp h
 refine ⟨a.eval x,?_,h1⟩
 rcases hv with ⟨K,q,off,rfl⟩|⟨z,off,rfl⟩
 · simp only [EvV,EvR,EvP] at h1
   obtain ⟨_,b,q',_,_,hv⟩:=h1
   simp [execOp,ho,hv]
 · simp only [EvV] at h1
   obtain ⟨b,q',_,hv,_⟩:=h1
   simp [execOp,ho,hv]
theorem guard_int {op:BinOp} {t:Nat} {X Y:Operand} {k j:IntKind} {n m:Int}:(eqGuard op t X Y (.int k n) (.int j m)).run P w=.ok () w:=by
 unfold eqGuard;split <;> rfl
theorem guard_str {op:BinOp} {t:Nat} {X Y:Operand} {n m:ByteArray}:(eqGuard op t X Y (.string n) (.string m)).run P w=.ok () w:=by
 unfold eqGuard;split <;> rfl
theorem guard_bool {op:BinOp} {t:Nat} {X Y:Operand} {n m:Bool}:(eqGuard op t X Y (.bool n) (.bool m)).run P w=.ok () w:=by
 unfold eqGuard;split <;> rfl
theorem str_eq (a b:ByteArray):(a.toList==b.toList)=decide (a=b):=by
 rw [Lib.toList_data,Lib.toList_data]
 by_cases h:a=b
 · subst h;simp
 · have:a.data.toList≠b.data.toList:=fun hh=>h (by cases a;cases b;simpa using hh)
   rw [decide_eq_false h,beq_eq_false_iff_ne];exact this
theorem vbin_int {op:BinOp} {k:IntKind} {n m:Int} {v:AVal} {t:Nat} (h:vbin op (.int k n) (.int k m)=some (true,v)) : ∃u,(binOp op t (.int k n) (.int k m)).run P w=.ok u w∧EvV w fz s.obj R v u:=by
 cases op <;> simp only [vbin,decide_true,cond_true,Option.some.injEq,Prod.mk.injEq,decide_eq_true_eq] at h
 case quo=>obtain ⟨h1,rfl⟩:=h;exact ⟨_,by simp [binOp,Op.intDiv,h1];rfl,by simp [EvV]⟩
 case rem=>obtain ⟨h1,rfl⟩:=h;exact ⟨_,by simp [binOp,Op.intDiv,h1];rfl,by simp [EvV]⟩
 case shl=>obtain ⟨h1,rfl⟩:=h;exact ⟨_,by simp [binOp,Op.shift,show ¬m<0 by omega];rfl,by simp [EvV]⟩
 case shr=>obtain ⟨h1,rfl⟩:=h;exact ⟨_,by simp [binOp,Op.shift,show ¬m<0 by omega];rfl,by simp [EvV]⟩
 case eql=>obtain ⟨_,rfl⟩:=h;exact ⟨_,by simp [binOp,Op.intCmp];rfl,by simp [EvV];rfl⟩
 case neq=>obtain ⟨_,rfl⟩:=h;exact ⟨_,by simp [binOp,Op.intCmp];rfl,by simp [EvV];rfl⟩
 all_goals first
  | (simp at h;done)
  | (obtain ⟨_,rfl⟩:=h;exact ⟨_,by simp [binOp,Op.intArith,Op.intBits,Op.intCmp];rfl,by simp [EvV]⟩)
theorem vbin_str {op:BinOp} {n m:ByteArray} {v:AVal} {t:Nat} (h:vbin op (.str n) (.str m)=some (true,v)) : ∃u,(binOp op t (.string n) (.string m)).run P w=.ok u w∧EvV w fz s.obj R v u:=by
 cases op <;> simp only [vbin,Option.some.injEq,Prod.mk.injEq] at h
 case add=>obtain ⟨h1,rfl⟩:=h;exact ⟨.string (n++m),by
  have hm : ¬(((n.size+m.size:Nat):Int)>IntKind.i64.max):=by have h2:=fits64_le h1
                                                             have:IntKind.i64.max=9223372036854775807:=by decide
                                                             omega
  simp only [binOp,Op.stringOp,if_neg hm];rfl,by simp [EvV]⟩
 case eql=>obtain ⟨_,rfl⟩:=h;exact ⟨_,by simp only [binOp,Op.stringOp,str_eq];rfl,by simp [EvV]⟩
 case neq=>obtain ⟨_,rfl⟩:=h;exact ⟨_,by simp only [binOp,Op.stringOp,str_eq];rfl,by simp [EvV]⟩
 case lss=>obtain ⟨_,rfl⟩:=h;exact ⟨_,by simp only [binOp,Op.stringOp,Lib.toList_data];rfl,by simp [EvV]⟩
 case leq=>obtain ⟨_,rfl⟩:=h;exact ⟨_,by simp only [binOp,Op.stringOp,str_eq];rfl,by simp only [EvV,Lib.toList_data]⟩
 case gtr=>obtain ⟨_,rfl⟩:=h;exact ⟨_,by simp only [binOp,Op.stringOp,str_eq];rfl,by simp only [EvV,Lib.toList_data]⟩
 case geq=>obtain ⟨_,rfl⟩:=h;exact ⟨_,by simp only [binOp,Op.stringOp,Lib.toList_data];rfl,by simp [EvV]⟩
 all_goals simp at h
theorem TF.bool {t:Nat} {T:TI} (h:TF P t T) (ha:T.agg=false) (hc:T.cts=[.bool]):P.underlying t=some .bool:=by
 obtain ⟨i,d,z,h1,h2,h3,h4,h5,h6,h7⟩:=h.info
 cases d <;> simp [descOK,ha,hc,ctOf] at h7
 · exact h2
theorem eq_bool {n m:Bool} {t:Nat} (ht:P.underlying t=some .bool):(Op.equal t (.bool n) (.bool m)).run P w=.ok (n==m) w:=by
 show (Op.equalIn (9999+1) t (.bool n) (.bool m)).run P w=_
 rw [Op.equalIn]
 simp only [Sem.run_bind,run_und ht,Result.andThen_ok];rfl
theorem guard_sl {op:BinOp} {t:Nat} {X Y:Operand} {a b:Option Addr} {n m c e:Nat}:(eqGuard op t X Y (.slice a n c) (.slice b m e)).run P w=.ok () w:=by
 unfold eqGuard;split <;> rfl
theorem eq_sl1 {t el:Nat} {a:Addr} {n c m e:Nat} (ht:P.underlying t=some (.slice el)):(Op.equal t (.slice (some a) n c) (.slice none m e)).run P w=.ok false w:=by
 show (Op.equalIn (9999+1) t (.slice (some a) n c) (.slice none m e)).run P w=_
 rw [Op.equalIn]
 simp only [Sem.run_bind,run_und ht,Result.andThen_ok];rfl
theorem eq_sl0 {t el:Nat} {n c m e:Nat} (ht:P.underlying t=some (.slice el)):(Op.equal t (.slice none n c) (.slice none m e)).run P w=.ok true w:=by
 show (Op.equalIn (9999+1) t (.slice none n c) (.slice none m e)).run P w=_
 rw [Op.equalIn]
 simp only [Sem.run_bind,run_und ht,Result.andThen_ok];rfl
theorem vbin_bool {op:BinOp} {n m:Bool} {v:AVal} {t:Nat} (ht:P.underlying t=some .bool) (h:vbin op (.bool n) (.bool m)=some (true,v)) : ∃u,(binOp op t (.bool n) (.bool m)).run P w=.ok u w∧EvV w fz s.obj R v u:=by
 cases op <;> simp only [vbin,Option.some.injEq,Prod.mk.injEq] at h
 case eql=>obtain ⟨_,rfl⟩:=h;exact ⟨.bool (n==m),by simp only [binOp,Sem.run_bind,eq_bool ht,Result.andThen_ok];rfl,by simp only [EvV]⟩
 case neq=>obtain ⟨_,rfl⟩:=h;exact ⟨.bool (!(n==m)),by simp only [binOp,Sem.run_bind,eq_bool ht,Result.andThen_ok];rfl,by simp only [EvV]⟩
 all_goals simp at h
theorem vbin_kinds {op:BinOp} {x y v:AVal} {b:Bool} (h:vbin op x y=some (b,v)):(∃k n m,x=.int k n∧y=.int k m)∨(∃k j n m,(op=.shl∨op=.shr)∧x=.int k n∧y=.int j m)∨(∃n m,x=.str n∧y=.str m)∨(∃n m,x=.bool n∧y=.bool m)∨(op=.eql∧(∃z,y=.nils z)∧((∃t sz xs,x=.ro t sz xs∧b = !xs.isEmpty∧v=.bool false)∨((∃z,x=.nils z)∧v=.bool true))):=by
 unfold vbin at h
 split at h
 case h_1 k n j m=>exact .inr (.inl ⟨k,j,n,m,.inl rfl,rfl,rfl⟩)
 case h_2 k n j m=>exact .inr (.inl ⟨k,j,n,m,.inr rfl,rfl,rfl⟩)
 case h_3 k n j m _ _=>
  by_cases hk:k=j
  · subst hk;exact .inl ⟨k,n,m,rfl,rfl⟩
  · rw [decide_eq_false hk] at h;simp at h
 all_goals first
  | (rename_i n m;exact .inr (.inr (.inl ⟨n,m,rfl,rfl⟩)))
  | (rename_i n m;exact .inr (.inr (.inr (.inl ⟨n,m,rfl,rfl⟩))))
  | (simp only [Option.some.injEq,Prod.mk.injEq] at h;obtain ⟨rfl,rfl⟩:=h;exact .inr (.inr (.inr (.inr ⟨rfl,⟨_,rfl⟩,.inl ⟨_,_,_,rfl,rfl,rfl⟩⟩))))
  | (simp only [Option.some.injEq,Prod.mk.injEq] at h;obtain ⟨rfl,rfl⟩:=h;exact .inr (.inr (.inr (.inr ⟨rfl,⟨_,rfl⟩,.inr ⟨⟨_,rfl⟩,rfl⟩⟩))))
  | simp at h
theorem vbin_shift {op:BinOp} {k j:IntKind} {n m:Int} {v:AVal} {t:Nat} (ho:op=.shl∨op=.shr) (h:vbin op (.int k n) (.int j m)=some (true,v)) : ∃u,(binOp op t (.int k n) (.int j m)).run P w=.ok u w∧EvV w fz s.obj R v u:=by
 rcases ho with rfl|rfl <;> simp only [vbin,Option.some.injEq,Prod.mk.injEq,decide_eq_true_eq] at h <;> obtain ⟨h1,rfl⟩:=h <;> exact ⟨_,by simp [binOp,Op.shift,show ¬m<0 by omega];rfl,by simp [EvV]⟩
theorem calm_binOp (hT:TOK P Φ) (hr:Rel w fz al s.env a.tmps s.obj R F) (hp:Sub p s) {o:Oper} {op:BinOp} {t u:Nat} {x y:Operand} {vx vy v:AVal} (ho:o.op=.binOp op t x y u) (hx:p.ev Φ t x=some vx) (hy:p.ev Φ u y=some vy) (hb:boolT Φ t vx=true) (h:vbin op vx vy=some (true,v)):Runs P a o w fz s R v:=by
 have ex:=ev_ok hr hp hx
 have ey:=ev_ok hr hp hy
 have key : ∀q,(do eqGuard op t x y (a.eval x) (a.eval y);binOp op t (a.eval x) (a.eval y):Sem Value).run P w=.ok q w→(execOp a.eval o).run P w=.ok (.value q) w:=by
  intro q hq
  simp only [execOp,ho]
  exact run_v hq
 rcases vbin_kinds h with ⟨k,n,m,rfl,rfl⟩|⟨k,j,n,m,hop,rfl,rfl⟩|⟨n,m,rfl,rfl⟩|⟨n,m,rfl,rfl⟩|⟨rfl,⟨z,rfl⟩,hxx⟩
 · simp only [EvV] at ex ey
   obtain ⟨q,h1,h2⟩:=vbin_int (P:=P) (w:=w) (fz:=fz) (s:=s) (R:=R) (t:=t) h
   exact ⟨q,key q (by rw [ex,ey];simp only [Sem.run_bind,guard_int,Result.andThen_ok,h1]),h2⟩
 · simp only [EvV] at ex ey
   obtain ⟨q,h1,h2⟩:=vbin_shift (P:=P) (w:=w) (fz:=fz) (s:=s) (R:=R) (t:=t) hop h
   exact ⟨q,key q (by rw [ex,ey];simp only [Sem.run_bind,guard_int,Result.andThen_ok,h1]),h2⟩
 · simp only [EvV] at ex ey
   obtain ⟨q,h1,h2⟩:=vbin_str (P:=P) (w:=w) (fz:=fz) (s:=s) (R:=R) (t:=t) h
   exact ⟨q,key q (by rw [ex,ey];simp only [Sem.run_bind,guard_str,Result.andThen_ok,h1]),h2⟩
 · simp only [EvV] at ex ey
   have ht:P.underlying t=some .bool:=by
    simp only [boolT] at hb
    cases hti:Φ.ti t with
    | none=>rw [hti] at hb;simp at hb
    | some T=>rw [hti] at hb;simp at hb;exact (hT.tf hti).bool hb.1 hb.2
   obtain ⟨q,h1,h2⟩:=vbin_bool (P:=P) (w:=w) (fz:=fz) (s:=s) (R:=R) (t:=t) ht h
   exact ⟨q,key q (by rw [ex,ey];simp only [Sem.run_bind,guard_bool,Result.andThen_ok,h1]),h2⟩
 · have hsl : ∀T,Φ.ti t=some T→rowT (some T)=true → ∃el,P.underlying t=some (.slice el):=fun T hTt hr1=>by
    simp only [rowT,Bool.and_eq_true,Bool.not_eq_true'] at hr1
    obtain ⟨h1,h2⟩:=hr1
    split at h2
    · rename_i sz hc
      obtain ⟨el,i,hu,_⟩:=(hT.tf hTt).slice h1 hc
      exact ⟨el,hu⟩
    · simp at h2
   have hrow:rowT (Φ.ti t)=true:=by
    rcases hxx with ⟨t0,sz,xs,rfl,_,_⟩|⟨⟨z2,rfl⟩,_⟩ <;> exact hb
   obtain ⟨el,hu⟩ : ∃el,P.underlying t=some (.slice el):=by
    cases hti:Φ.ti t with
    | none=>rw [hti] at hrow;simp [rowT] at hrow
    | some T=>rw [hti] at hrow;exact hsl T hti hrow
   simp only [EvV] at ey
   rcases hxx with ⟨t0,sz,xs,rfl,hbb,rfl⟩|⟨⟨z2,rfl⟩,rfl⟩
   · simp only [EvV,ROC] at ex
     obtain ⟨aa,cap,hv,_,_,hne⟩:=ex
     simp only [List.cons.injEq,and_true] at hv
     have hxs:xs≠[]:=by rintro rfl;simp at hbb
     obtain ⟨_,b,off,cs,rfl,_⟩:=hne hxs
     exact ⟨.bool false,key _ (by rw [hv,ey];simp only [Sem.run_bind,guard_sl,Result.andThen_ok,binOp,eq_sl1 hu];rfl),by simp only [EvV]⟩
   · simp only [EvV] at ex
     exact ⟨.bool true,key _ (by rw [ex,ey];simp only [Sem.run_bind,guard_sl,Result.andThen_ok,binOp,eq_sl0 hu];rfl),by simp only [EvV]⟩
theorem eqFields_ok {d:Nat} : ∀(fs:List Field) (cs:List CT) (i:Nat) (xs ys:List AVal) (r:Bool) (us vs:Array Value),eqFB P i fs cs=true→eqCells cs xs ys=some r→EvL w fz s.obj R xs (us.toList.drop i)→EvL w fz s.obj R ys (vs.toList.drop i) →
 (Op.eqFields (d+1) us vs fs).run P w=.ok r w
 | [],[],i,xs,ys,r,us,vs,hf,hc,hx,hy=>by
   cases xs <;> cases ys <;> simp [eqCells] at hc
   subst hc;rfl
 | [],c::cs,i,xs,ys,r,us,vs,hf,hc,hx,hy=>by simp [eqFB] at hf
 | f::fs,[],i,xs,ys,r,us,vs,hf,hc,hx,hy=>by simp [eqFB] at hf
 | f::fs,c::cs,i,xs,ys,r,us,vs,hf,hc,hx,hy=>by
   simp only [eqFB,Bool.and_eq_true,decide_eq_true_eq] at hf
   obtain ⟨hn,hoff,ht,hf⟩:=hf
   have hoff:=Nat.eq_of_beq_eq_true hoff
   have key : ∀(x y:AVal) (xs' ys':List AVal) (b r':Bool),xs=x::xs'→ys=y::ys'→eqCells cs xs' ys'=some r'→(∀u v,EvV w fz s.obj R x u→EvV w fz s.obj R y v→(Op.equalIn (d+1) f.type u v).run P w=.ok b w)→r=(b&&r') →
    (∀arr o (u:Value),arr[o]? = some u→(part f.type arr o).run P w=.ok u w)→(Op.eqFields (d+1) us vs (f::fs)).run P w=.ok r w:=by
    intro x y xs' ys' b r' hxs hys hr he hrr hpart
    subst hxs;subst hys
    simp only [EvL] at hx hy
    obtain ⟨u,ur,hu1,hu2,hu3⟩:=hx
    obtain ⟨v,vr,hv1,hv2,hv3⟩:=hy
    have hu:us[i]? = some u:=by
     have:(us.toList.drop i)[0]? = some u:=by rw [hu1];rfl
     simpa using this
    have hv:vs[i]? = some v:=by
     have:(vs.toList.drop i)[0]? = some v:=by rw [hv1];rfl
     simpa using this
    have hur:us.toList.drop (i+1)=ur:=by rw [←List.drop_drop,hu1];rfl
    have hvr:vs.toList.drop (i+1)=vr:=by rw [←List.drop_drop,hv1];rfl
    have ih:=eqFields_ok (d:=d) fs cs (i+1) xs' ys' r' us vs hf hr (by rw [hur];exact hu3) (by rw [hvr];exact hv3)
    rw [Op.eqFields]
    simp only [hn,ne_eq,not_false_eq_true,if_true,Sem.run_bind,hoff,hpart us i u hu,hpart vs i v hv,Result.andThen_ok,he u v hu2 hv2]
    subst hrr
    cases b with
    | true=>simp only [Bool.not_true,Bool.false_eq_true,if_false,Bool.true_and];exact ih
    | false=>simp
   have hpart : ∀(td:TypeDesc),P.underlying f.type=some td→(match td with|.struct _=>false|.array _ _=>false|_=>true)=true → ∀(arr:Array Value) o (u:Value),arr[o]? = some u→(part f.type arr o).run P w=.ok u w:=by
    intro td htd hq arr o u hu
    have ha:(isAgg f.type).run P w=.ok false w:=by
     simp only [isAgg,Sem.run_bind,run_und htd,Result.andThen_ok]
     cases td <;> first|rfl|simp at hq
    simp only [part,Sem.run_bind,ha,Result.andThen_ok,Bool.false_eq_true,if_false,hu,Sem.run_pure]
   split at ht
   · rename_i k' k hu
     cases xs with
     | nil=>simp [eqCells] at hc
     | cons x xs=>
       cases ys with
       | nil=>cases x <;> simp [eqCells] at hc
       | cons y ys=>
         cases x <;> cases y <;> simp only [eqCells,reduceCtorEq] at hc
         rename_i i1 a1 j1 b1
         simp only [Bool.cond_eq_ite] at hc
         split at hc
         · cases hr:eqCells cs xs ys with
           | none=>rw [hr] at hc;simp at hc
           | some r'=>
             rw [hr] at hc
             simp only [Option.some.injEq] at hc
             refine key _ _ xs ys (decide (a1=b1)) r' rfl rfl hr (fun u v h1 h2 => ?_) hc.symm (hpart _ hu rfl)
             simp only [EvV] at h1 h2
             subst h1;subst h2
             rename_i hk
             simp only [Bool.and_eq_true,decide_eq_true_eq] at hk
             rw [hk.1,hk.2,run_equalIn_int (w:=w) d f.type k k' a1 b1 hu]
             congr 1
         · simp at hc
   · rename_i hu
     cases xs with
     | nil=>simp [eqCells] at hc
     | cons x xs=>
       cases ys with
       | nil=>cases x <;> simp [eqCells] at hc
       | cons y ys=>
         cases x <;> cases y <;> simp only [eqCells,reduceCtorEq] at hc
         rename_i a1 b1
         cases hr:eqCells cs xs ys with
         | none=>rw [hr] at hc;simp at hc
         | some r'=>
           rw [hr] at hc
           simp only [Option.some.injEq] at hc
           refine key _ _ xs ys (decide (a1=b1)) r' rfl rfl hr (fun u v h1 h2 => ?_) hc.symm (hpart _ hu rfl)
           simp only [EvV] at h1 h2
           subst h1;subst h2
           rw [run_equalIn_string (w:=w) d f.type a1 b1 hu,str_eq]
   · rename_i hu
     cases xs with
     | nil=>simp [eqCells] at hc
     | cons x xs=>
       cases ys with
       | nil=>cases x <;> simp [eqCells] at hc
       | cons y ys=>
         cases x <;> cases y <;> simp only [eqCells,reduceCtorEq] at hc
         rename_i a1 b1
         cases hr:eqCells cs xs ys with
         | none=>rw [hr] at hc;simp at hc
         | some r'=>
           rw [hr] at hc
           simp only [Option.some.injEq] at hc
           refine key _ _ xs ys (a1==b1) r' rfl rfl hr (fun u v h1 h2 => ?_) hc.symm (hpart _ hu rfl)
           simp only [EvV] at h1 h2
           subst h1;subst h2
           exact run_equalIn_bool' (w:=w) d f.type a1 b1 hu
   · simp at ht
theorem calm_binA (hT:TOK P Φ) (hr:Rel w fz al s.env a.tmps s.obj R F) (hp:Sub p s) {o:Oper} {op:BinOp} {t u:Nat} {x y:Operand} {xs ys:List AVal} {v:AVal} (ho:o.op=.binOp op t x y u) (hx:p.ev Φ t x=some (.agg xs)) (hy:p.ev Φ u y=some (.agg ys)) (h:vbinA Φ op t xs ys=some v):Runs P a o w fz s R v:=by
 have ex:=ev_ok hr hp hx
 have ey:=ev_ok hr hp hy
 simp only [EvV] at ex ey
 obtain ⟨us,hu,hul⟩:=ex
 obtain ⟨vs,hv,hvl⟩:=ey
 have key : ∀q,(do eqGuard op t x y (a.eval x) (a.eval y);binOp op t (a.eval x) (a.eval y):Sem Value).run P w=.ok q w→(execOp a.eval o).run P w=.ok (.value q) w:=by
  intro q hq
  simp only [execOp,ho]
  exact run_v hq
 unfold vbinA at h
 cases he:lk Φ.eqs t with
 | none=>rw [he] at h;simp at h
 | some cs=>
   rw [he] at h
   have hB:=hT.eq t cs he
   unfold eqTB at hB
   simp only [Bool.and_eq_true,Bool.not_eq_true'] at hB
   obtain ⟨hB,hst,hgd⟩:=hB
   split at hB
   · rename_i fs hfs
     have hfo:P.fieldsOf t=fs:=by simp only [Program.fieldsOf,hfs]
     have heq : ∀r,eqCells cs xs ys=some r→(Op.equalIn 10000 t (.agg us) (.agg vs)).run P w=.ok r w:=fun r hr'=>by
      rw [run_equalIn_struct w 9999 t us vs (by rw [hfo];exact hfs) hst,hfo]
      exact eqFields_ok (d:=9998) fs.toList cs 0 xs ys r us vs hB hr' (by simpa using hul) (by simpa using hvl)
     cases op <;> simp only [reduceCtorEq] at h
     · cases hr':eqCells cs xs ys with
       | none=>rw [hr'] at h;simp at h
       | some r=>
         rw [hr'] at h
         simp only [Option.map_some,Option.some.injEq] at h
         subst h
         refine ⟨.bool r,key _ ?_,by simp only [EvV]⟩
         rw [hu,hv]
         simp only [Sem.run_bind,run_eqGuard_agg w _ t x y us vs hgd,Result.andThen_ok,run_eql_struct,heq r hr']
     · cases hr':eqCells cs xs ys with
       | none=>rw [hr'] at h;simp at h
       | some r=>
         rw [hr'] at h
         simp only [Option.map_some,Option.some.injEq] at h
         subst h
         refine ⟨.bool (!r),key _ ?_,by simp only [EvV]⟩
         rw [hu,hv]
         simp only [Sem.run_bind,run_eqGuard_agg w _ t x y us vs hgd,Result.andThen_ok,run_neq_struct,heq r hr']
   · simp at hB
theorem calm_unOp (hr:Rel w fz al s.env a.tmps s.obj R F) (hp:Sub p s) {o:Oper} {op:UnOp} {t:Nat} {x:Operand} {vx v:AVal} (ho:o.op=.unOp op t x) (hx:p.ev Φ t x=some vx) (h:vun op vx=some v):Runs P a o w fz s R v:=by
 have ex:=ev_ok hr hp hx
 unfold vun at h
 split at h
 · simp only [EvV] at ex
   obtain rfl:=Option.some.inj h
   exact ⟨_,by simp only [execOp,ho,ex];exact run_v (v:=.int _ _) rfl,by simp only [EvV]⟩
 · simp only [EvV] at ex
   obtain rfl:=Option.some.inj h
   exact ⟨_,by simp only [execOp,ho,ex];exact run_v (v:=.bool _) rfl,by simp only [EvV]⟩
 · simp at h
theorem calm_makeFunc (hr:Rel w fz al s.env a.tmps s.obj R F) (hp:Sub p s) {o:Oper} {f:Nat} {first captured:Array Operand} {vs:List AVal} (ho:o.op=.makeFunc (.func f) first captured) (hf:first.isEmpty=true) (hbn:Nat.ble bndBase f=false) (hx:evs Φ p (captured.toList.map fun _=>0) captured.toList=some vs) (hptr:vs.all isPtrLike=true):Runs P a o w fz s R (.clo f vs):=by
 have ex:=evs_ok hr hp hx
 have h0:first = #[]:=by simpa using hf
 refine ⟨.func (.func f) #[] (captured.map a.eval),by simp [execOp,ho,h0,Instr.makeFunc],?_⟩
 simp only [EvV,EvR]
 refine ⟨_,by unfold cloV;rw [hbn];rfl,?_⟩
 simp only [Array.toList_map]
 clear ho hx
 revert ex hptr
 generalize captured.toList.map a.eval=us
 induction vs generalizing us with
 | nil=>intro hptr ex;simpa [EvL,EvPs] using ex
 | cons v vs ih=>
   intro hptr ex
   simp only [EvL] at ex
   obtain ⟨u,r,rfl,h1,h2⟩:=ex
   simp only [List.all_cons,Bool.and_eq_true] at hptr
   simp only [EvPs]
   refine ⟨u,r,rfl,?_,ih r hptr.2 h2⟩
   cases v <;> simp [isPtrLike] at hptr <;> simpa only [EvV,EvR,EvP] using h1
theorem calm_makeBnd (hr:Rel w fz al s.env a.tmps s.obj R F) (hp:Sub p s) {o:Oper} {f:Nat} {first captured:Array Operand} {vs:List AVal} (ho:o.op=.makeFunc (.func f) first captured) (hf:captured.isEmpty=true) (hx:evs Φ p (first.toList.map fun _=>0) first.toList=some vs) (hptr:vs.all isPtrLike=true):Runs P a o w fz s R (.clo (bndBase+f) vs):=by
 have ex:=evs_ok hr hp hx
 have h0:captured = #[]:=by simpa using hf
 refine ⟨.func (.func f) (first.map a.eval) #[],by simp [execOp,ho,h0,Instr.makeFunc],?_⟩
 simp only [EvV,EvR]
 refine ⟨_,by unfold cloV;rw [show Nat.ble bndBase (bndBase+f)=true from Nat.ble_eq_true_of_le (Nat.le_add_right _ _),cond_true,Nat.add_sub_cancel_left],?_⟩
 simp only [Array.toList_map]
 clear ho hx
 revert ex hptr
 generalize first.toList.map a.eval=us
 induction vs generalizing us with
 | nil=>intro hptr ex;simpa [EvL,EvPs] using ex
 | cons v vs ih=>
   intro hptr ex
   simp only [EvL] at ex
   obtain ⟨u,r,rfl,h1,h2⟩:=ex
   simp only [List.all_cons,Bool.and_eq_true] at hptr
   simp only [EvPs]
   refine ⟨u,r,rfl,?_,ih r hptr.2 h2⟩
   cases v <;> simp [isPtrLike] at hptr <;> simpa only [EvV,EvR,EvP] using h1
end
end Go.VK
namespace Go.VK
open AVal
section
variable {P:Program} {Φ:Ctx} {w:World} {fz al:Nat→Prop} {p s:St} {a:Act} {R:RM} {F:Nat→Foot}
theorem ro_val {t:Bool} {sz:Nat} {xs:List AVal} {v:Value} (h:ROC w fz (.ro t sz xs) [v]) : ∃b cap,v=.slice b xs.length cap∧xs.length≤cap∧(t=true→cap=xs.length) ∧
 (xs≠[]→0<sz ∧ ∃g off cs,b=some ⟨g,off,none⟩∧fz g∧RBlk w g cs∧ROX w fz xs sz (cs.toList.drop off)):=by
 simp only [ROC] at h
 obtain ⟨b,cap,h1,h2,h3,h4⟩:=h
 exact ⟨b,cap,by simpa using h1,h2,h3,h4⟩
theorem ro_val' {t:Bool} {sz:Nat} {xs:List AVal} {c:List Value} (h:ROC w fz (.ro t sz xs) c) : ∃b cap,c=[.slice b xs.length cap]∧xs.length≤cap:=by
 simp only [ROC] at h
 obtain ⟨b,cap,h1,h2,_⟩:=h
 exact ⟨b,cap,h1,h2⟩
theorem own_val {E:Env2} {x:AVal} {v:Value} {f:Foot} (hx:isSl x=true) (h:OwC w fz E x [v] f) : ∃b cap,v=.slice b x.elems.length cap∧x.elems.length≤cap:=by
 cases x <;> simp [isSl] at hx
 · simp only [OwC] at h
   obtain ⟨b,cap,h1,h2,_⟩:=ro_val h.1
   exact ⟨b,cap,h1,h2⟩
 · simp only [OwC] at h
   obtain ⟨b,cap,h1,h2,_⟩:=h
   exact ⟨b,cap,by simpa [AVal.elems] using h1,by simpa [AVal.elems] using h2⟩
theorem at_read (hr:Rel w fz al s.env a.tmps s.obj R F) {K:Nat} {q:List Nat} {o:VObj} (ho:s.obj K=some o) (hq:o.c.okg q=true) : ∃l c f,walk w o.c (R K) q=some l∧LocAt w l c∧RdC w fz (EvR w s.obj R) (o.c.get q) c f:=by
 obtain ⟨c,f0,h1,h2,h3,h4,h5⟩:=(hr.obj K o ho).loc
 obtain ⟨l,c',E',h6,h7,h8,h9,_⟩:=walk_read q _ o.c c f0 (R K) (.inl ⟨f0,fun _=>Nat.le_refl _,h1⟩) h2 h3 hq
 refine ⟨l,c',f0,h6,h7,?_⟩
 rcases h9 with rfl|rfl
 · exact h8
 · rcases h8 with ⟨f1,hf,h8⟩|h8
   · exact .inl ⟨f1,hf,OwC.mono (fun b hb=>⟨hb,rfl⟩) _ NoE _ (fun _ _ _ h=>h.elim) _ _ (fun _ _=>rfl) h8⟩
   · exact .inr h8
theorem shape_ok {E:Env2} {T:CT} {x:AVal} {c:List Value} {f:Foot} (hs:T.shape x=true) (hp : ∀sz,T≠.slice sz) (h:RdC w fz E x c f) : ∃u,c=[u]∧EvV w fz s.obj R (T.co x) u:=by
 rcases h with ⟨f1,_,h⟩|h <;> cases T <;> cases x <;> simp [CT.shape] at hs <;> simp only [OwC,ROC] at h
 case inl.bool.bool=>exact ⟨_,h.1,by simp [CT.co,AVal.toBool,EvV]⟩
 case inl.int.int=>subst hs;exact ⟨_,h.1,by simp [CT.co,AVal.toInt,EvV]⟩
 case inl.str.str=>exact ⟨_,h.1,by simp [CT.co,AVal.toStr,EvV]⟩
 case inr.bool.bool=>exact ⟨_,h,by simp [CT.co,AVal.toBool,EvV]⟩
 case inr.int.int=>subst hs;exact ⟨_,h,by simp [CT.co,AVal.toInt,EvV]⟩
 case inr.str.str=>exact ⟨_,h,by simp [CT.co,AVal.toStr,EvV]⟩
 all_goals exact absurd rfl (hp _)
theorem cellAt_ok {T:CT} {K:Nat} {o:VObj} {q:List Nat} {v:AVal} {l:VK.Loc} {c:List Value} {f:Foot} (ho:s.obj K=some o) (hw:walk w o.c (R K) q=some l) (hl:LocAt w l c) (hrd:RdC w fz (EvR w s.obj R) (o.c.get q) c f)
 (h:cellAt T K o.c q=some (true,v)) : ∃u,c=[u]∧EvV w fz s.obj R v u:=by
 have href : ∀u,c=[u]→EvV w fz s.obj R (.ref K q) u:=fun u hu=>by
  simp only [EvV,EvR,EvP]
  subst hu
  exact ⟨o,l,ho,hw,hl.hd,hrd.elim (fun ⟨_,_,h⟩=>OwC.ones _ _ _ h u (by simp)) (fun h=>ROC.ones _ _ h u (by simp))⟩
 unfold cellAt at h
 split at h
 · rename_i sz
   cases ht:o.c.thru q with
   | true=>
     rw [ht] at h;simp only [cond_true,Option.some.injEq,Prod.mk.injEq] at h
     obtain ⟨hs,rfl⟩:=h
     obtain ⟨u,hu⟩ : ∃u,c=[u]:=by
      cases hg:o.c.get q <;> rw [hg] at hs hrd <;> simp [CT.shape] at hs
      · rcases hrd with ⟨_,_,h⟩|h
        · simp only [OwC] at h;obtain ⟨b,cap,h1,_⟩:=ro_val' h.1;exact ⟨_,h1⟩
        · obtain ⟨b,cap,h1,_⟩:=ro_val' h;exact ⟨_,h1⟩
      · rcases hrd with ⟨_,_,h⟩|h
        · simp only [OwC] at h;obtain ⟨b,cap,h1,_⟩:=h;exact ⟨_,h1⟩
        · simp [ROC] at h
      · rcases hrd with ⟨_,_,h⟩|h
        · simp only [OwC] at h;exact ⟨_,h.1⟩
        · simp only [ROC] at h;exact ⟨_,h⟩
     exact ⟨u,hu,href u hu⟩
   | false=>
     rw [ht] at h;simp only [cond_false] at h
     split at h
     · rename_i z xs hg
       cases hb:Nat.beq z sz with
       | false=>rw [hb] at h;simp at h
       | true=>
         rw [hb] at h;simp only [cond_true,Option.some.injEq,Prod.mk.injEq,true_and] at h;subst h
         rw [hg] at hrd
         rcases hrd with ⟨_,_,h⟩|h
         · simp only [OwC] at h;obtain ⟨b,cap,h1,_⟩:=h;exact ⟨_,h1,href _ h1⟩
         · simp [ROC] at h
     · rename_i t z xs hg
       cases hb:Nat.beq z sz with
       | false=>rw [hb] at h;simp at h
       | true=>
         rw [hb] at h;simp only [cond_true,Option.some.injEq,Prod.mk.injEq,true_and] at h;subst h
         rw [hg] at hrd
         have hro:ROC w fz (.ro t z xs) c:=by
          rcases hrd with ⟨_,_,h⟩|h
          · simp only [OwC] at h;exact h.1
          · exact h
         obtain ⟨b,cap,h1,_⟩:=ro_val' hro
         exact ⟨_,h1,by simp only [EvV];rw [←h1];exact hro⟩
     · rename_i J q' hg
       simp only [Option.some.injEq,Prod.mk.injEq,true_and] at h;subst h
       rw [hg] at hrd
       rcases hrd with ⟨_,_,h⟩|h
       · simp only [OwC] at h;obtain ⟨⟨u,hu,_,hE⟩,_⟩:=h;exact ⟨u,hu,by simpa only [EvV] using hE⟩
       · simp [ROC] at h
     · simp at h
 · cases ht:o.c.thru q with
   | true=>rw [ht] at h;simp at h
   | false=>
     rw [ht] at h;simp only [cond_false] at h
     split at h
     · rename_i hg
       simp only [Option.some.injEq,Prod.mk.injEq,true_and] at h;subst h
       rw [hg] at hrd
       rcases hrd with ⟨_,_,h⟩|h
       · simp only [OwC] at h;exact ⟨_,h.1,by simp only [EvV]⟩
       · simp only [ROC] at h;exact ⟨_,h,by simp only [EvV]⟩
     · rename_i J q' off hg
       simp only [Option.some.injEq,Prod.mk.injEq,true_and] at h;subst h
       rw [hg] at hrd
       rcases hrd with ⟨_,_,h⟩|h
       · simp only [OwC] at h;obtain ⟨⟨u,hu,_,hE⟩,_⟩:=h;exact ⟨u,hu,by simpa only [EvV] using hE⟩
       · simp [ROC] at h
     · simp at h
 · cases ht:o.c.thru q with
   | true=>rw [ht] at h;simp at h
   | false=>
     rw [ht] at h;simp only [cond_false] at h
     split at h
     · rename_i J cs hg
       simp only [Option.some.injEq,Prod.mk.injEq,true_and] at h;subst h
       rw [hg] at hrd
       rcases hrd with ⟨_,_,h⟩|h
       · simp only [OwC] at h;obtain ⟨⟨u,hu,_,hE⟩,_⟩:=h;exact ⟨u,hu,by simpa only [EvV] using hE⟩
       · simp [ROC] at h
     · rename_i kc xs hg
       simp only [Option.some.injEq,Prod.mk.injEq,true_and] at h;subst h
       rw [hg] at hrd
       rcases hrd with ⟨_,_,h⟩|h
       · simp only [OwC] at h
         obtain ⟨u,hu,_⟩:=h.one
         exact ⟨u,hu,href u hu⟩
       · simp [ROC] at h
     · simp at h
 · rename_i hn1 hn2 hn3
   simp only [Option.some.injEq,Prod.mk.injEq] at h
   obtain ⟨hs,rfl⟩:=h
   exact shape_ok hs (fun sz=>hn1 sz) hrd
end
end Go.VK
namespace Go.VK
open AVal
section
variable {P:Program} {Φ:Ctx} {w:World} {fz al:Nat→Prop} {p s:St} {a:Act} {R:RM} {F:Nat→Foot}
theorem get_nil (x:AVal):x.get []=x:=by cases x <;> rfl
theorem okg_nil (x:AVal):x.okg []=true:=by cases x <;> rfl
theorem walk_append {w:World} : ∀(q r:List Nat) (x:AVal) (l:VK.Loc),walk w x l (q++r)=(walk w x l q).bind fun l'=>walk w (x.get q) l' r
 | [],r,x,l=>by rw [walk_nil,get_nil];rfl
 | i::q,r,x,l=>by
   cases x with
   | agg cs=>
     cases l with
     | val v=>simp [walk]
     | mem b o=>
       simp only [List.cons_append,walk,AVal.get]
       by_cases h:i<cs.length
       · rw [if_pos h,if_pos h];exact walk_append q r _ _
       · rw [if_neg h,if_neg h];rfl
   | own sz xs=>
     simp only [List.cons_append,walk,AVal.get]
     by_cases h:i<xs.length
     · rw [if_pos h,if_pos h]
       split
       · exact walk_append q r _ _
       · rfl
     · rw [if_neg h,if_neg h];rfl
   | ro t sz xs=>
     simp only [List.cons_append,walk,AVal.get]
     by_cases h:i<xs.length
     · rw [if_pos h,if_pos h]
       split
       · exact walk_append q r _ _
       · rfl
     · rw [if_neg h,if_neg h];rfl
   | tup vs=>simp [walk]
   | _=>simp [walk]
theorem okg_append : ∀(q r:List Nat) (x:AVal),x.okg (q++r)=(x.okg q&&(x.get q).okg r)
 | [],r,x=>by rw [okg_nil,get_nil];rfl
 | i::q,r,x=>by cases x <;> simp [AVal.okg,AVal.get,okg_append q r,Bool.and_assoc]
theorem get_append : ∀(q r:List Nat) (x:AVal),x.get (q++r)=(x.get q).get r
 | [],r,x=>by rw [get_nil];rfl
 | i::q,r,x=>by
   cases x <;> simp only [List.cons_append,AVal.get,get_append q r] <;> (cases r <;> simp [AVal.get])
theorem add_at (b o n:Nat):(⟨b,o,none⟩:Addr).add n=⟨b,o+n,none⟩:=by
 unfold Addr.add;split
 · rename_i h;subst h;rfl
 · rfl
theorem agg_of {x:AVal} (h:aggQ x=true) : ∃cs,x=.agg cs:=by cases x <;> simp [aggQ] at h;exact ⟨_,rfl⟩
theorem cell_of (hr:Rel w fz al s.env a.tmps s.obj R F) {K:Nat} {q:List Nat} {o:VObj} (ho:s.obj K=some o) {b0 q0:Nat} (hw:walk w o.c (R K) q=some (.mem b0 q0)) (hq:o.c.okg q=true) (hag:aggQ (o.c.get q)=true) {k:Nat} (hk:k<(o.c.get q).cells.length) {T:CT} {v:AVal} (h:cellAt T K o.c (q++[k])=some (true,v)) :
 ∃u,w.cell? ⟨b0,q0+k,none⟩=some u∧EvV w fz s.obj R v u:=by
 obtain ⟨cs,hcs⟩:=agg_of hag
 have hk':k<cs.length:=by rw [hcs] at hk;simpa [AVal.cells] using hk
 have hok:o.c.okg (q++[k])=true:=by rw [okg_append,hq,hcs];simp [AVal.okg,hk']
 obtain ⟨l,c,f,h1,h2,h3⟩:=at_read hr ho hok
 have hl:l=.mem b0 (q0+k):=by
  rw [walk_append,hw,hcs] at h1
  simp only [Option.bind_some,walk,if_pos hk',Option.some.injEq] at h1
  exact h1.symm
 subst hl
 obtain ⟨u,rfl,h4⟩:=cellAt_ok ho h1 h2 h3 h
 exact ⟨u,by have:=h2.hd;simpa [hdOf] using this,h4⟩
theorem cells_of (hr:Rel w fz al s.env a.tmps s.obj R F) {K:Nat} {q:List Nat} {o:VObj} (ho:s.obj K=some o) {b0 q0:Nat} (hw:walk w o.c (R K) q=some (.mem b0 q0)) (hq:o.c.okg q=true) (hag:aggQ (o.c.get q)=true) : ∀(Ts:List CT) (i:Nat) (vs:List AVal),i+Ts.length≤(o.c.get q).cells.length→cellsAt K o.c q i Ts=some (true,vs) →
 ∃us,us.length=Ts.length∧EvL w fz s.obj R vs us ∧ ∀j u,us[j]? = some u→w.cell? ⟨b0,q0+i+j,none⟩=some u
 | [],i,vs,_,h=>by simp only [cellsAt,Option.some.injEq,Prod.mk.injEq,true_and] at h;subst h;exact ⟨[],rfl,by simp [EvL],by simp⟩
 | T::Ts,i,vs,hle,h=>by
   simp only [cellsAt] at h
   split at h
   · rename_i b v d vs' h1 h2
     simp only [Option.some.injEq,Prod.mk.injEq,Bool.and_eq_true] at h
     obtain ⟨⟨rfl,rfl⟩,rfl⟩:=h
     simp only [List.length_cons] at hle
     obtain ⟨u,h3,h4⟩:=cell_of hr ho hw hq hag (by omega) h1
     obtain ⟨us,h5,h6,h7⟩:=cells_of hr ho hw hq hag Ts (i+1) vs' (by omega) h2
     refine ⟨u::us,by simp [h5],by simp only [EvL];exact ⟨u,us,rfl,h4,h6⟩,?_⟩
     intro j x hj
     cases j with
     | zero=>simp at hj;subst hj;exact h3
     | succ j=>
       have:=h7 j x (by simpa using hj)
       rw [show q0+i+(j+1)=q0+(i+1)+j by omega];exact this
   · simp at h
theorem ro_cell {x:AVal} {c:List Value} (h:ROC w fz x c) {k:Nat} (hk:k<x.cells.length) : ∃u,c[k]? = some u∧ROC w fz (x.cell k) [u]:=by
 cases x with
 | agg cs=>
   simp only [ROC] at h
   simp only [AVal.cells] at hk
   obtain ⟨u,h1,h2⟩:=ROL.at k h hk
   exact ⟨u,h1,by simpa [AVal.cell,AVal.cells] using h2⟩
 | _=>
   simp only [AVal.cells,List.length_singleton] at hk
   have h0:k=0:=by omega
   subst h0
   have hc : ∃u,c=[u]:=by
    (simp only [ROC] at h) <;> first
      | exact ⟨_,h⟩
      | (obtain ⟨b,cap,h1,_⟩:=h;exact ⟨_,h1⟩)
      | (obtain ⟨v,h1,_⟩:=h;exact ⟨v,h1⟩)
      | exact h
      | exact h.elim
   obtain ⟨u,rfl⟩:=hc
   exact ⟨u,rfl,by simpa [AVal.cell,AVal.cells] using h⟩
theorem coR_ok {T:CT} {x v:AVal} {u:Value} (hs:T.shape x=true) (h:coR T x=some v) (hx:ROC w fz x [u]):EvV w fz s.obj R v u:=by
 cases T with
 | ptr=>simp [coR] at h
 | oth=>simp [coR] at h
 | slice sz=>
   simp only [coR,Option.some.injEq] at h;subst h
   cases x <;> simp [CT.shape] at hs
   · simp only [CT.co,AVal.elems,EvV]
     subst hs
     simp only [ROC] at hx ⊢
     obtain ⟨b,cap,h1,h2,h3,h4⟩:=hx
     exact ⟨b,cap,h1,h2,by simp,h4⟩
   · simp [ROC] at hx
   · simp only [CT.co,AVal.elems,EvV]
     simp only [ROC] at hx ⊢
     simp at hx
     exact ⟨none,0,by simp [hx],by simp,by simp,by simp⟩
 | bool=>simp only [coR,Option.some.injEq] at h;subst h;obtain ⟨u',h1,h2⟩:=shape_ok (E:=NoE) (c:=[u]) (f:=zf) (s:=s) (R:=R) hs (by simp) (.inr hx);simp at h1;subst h1;exact h2
 | int k=>simp only [coR,Option.some.injEq] at h;subst h;obtain ⟨u',h1,h2⟩:=shape_ok (E:=NoE) (c:=[u]) (f:=zf) (s:=s) (R:=R) hs (by simp) (.inr hx);simp at h1;subst h1;exact h2
 | str=>simp only [coR,Option.some.injEq] at h;subst h;obtain ⟨u',h1,h2⟩:=shape_ok (E:=NoE) (c:=[u]) (f:=zf) (s:=s) (R:=R) hs (by simp) (.inr hx);simp at h1;subst h1;exact h2
theorem cosR_ok {x:AVal} {c:List Value} (hx:ROC w fz x c) : ∀(Ts:List CT) (i:Nat) (vs:List AVal),cosR x i Ts=some vs→shapes Ts ((x.cells.drop i).take Ts.length)=true →
 ∃us,us.length=Ts.length∧EvL w fz s.obj R vs us ∧ ∀j u,us[j]? = some u→c[i+j]? = some u
 | [],i,vs,h,_=>by simp only [cosR,Option.some.injEq] at h;subst h;exact ⟨[],rfl,by simp [EvL],by simp⟩
 | T::Ts,i,vs,h,hs=>by
   have hlt:i<x.cells.length:=by
    apply Classical.byContradiction;intro hn
    rw [List.drop_of_length_le (by omega)] at hs
    simp [shapes] at hs
   have hcell:x.cells[i]=x.cell i:=by simp [AVal.cell,hlt]
   rw [List.drop_eq_getElem_cons hlt,List.length_cons,List.take_succ_cons] at hs
   simp only [shapes,Bool.and_eq_true,hcell] at hs
   have hc : ∃v vs',coR T (x.cell i)=some v∧cosR x (i+1) Ts=some vs'∧vs=v::vs':=by
    cases hq:cosR x (i+1) Ts with
    | none=>cases T <;> simp [cosR,hq] at h
    | some vs'=>cases T <;> simp [cosR,hq] at h <;> exact ⟨_,vs',rfl,rfl,h.symm⟩
   obtain ⟨v,vs',h1,h2,rfl⟩:=hc
   obtain ⟨u,h3,h4⟩:=ro_cell hx hlt
   obtain ⟨us,h5,h6,h7⟩:=cosR_ok hx Ts (i+1) vs' h2 hs.2
   refine ⟨u::us,by simp [h5],by simp only [EvL];exact ⟨u,us,rfl,coR_ok hs.1 h1 h4,h6⟩,?_⟩
   intro j y hj
   cases j with
   | zero=>simp at hj;subst hj;exact h3
   | succ j=>
     have:=h7 j y (by simpa using hj)
     rw [show i+(j+1)=i+1+j by omega];exact this
theorem run_load_cell {w:World} {ad:Addr} {u:Value} (h:w.cell? ad=some u):(load ad).run P w=.ok u w:=by
 rw [run_load];simp only [h]
end
end Go.VK
namespace Go.VK
open AVal
section
variable {P:Program} {Φ:Ctx} {w:World} {fz al:Nat→Prop} {p s:St} {a:Act} {R:RM} {F:Nat→Foot}
theorem run_cells {w:World} {b q:Nat} {us:List Value} (h : ∀j u,us[j]? = some u→w.cell? ⟨b,q+j,none⟩=some u):(loadCells ⟨b,q,none⟩ us.length).run P w=.ok us.toArray w:=
 by apply run_loadCells_list;intro j v hv;rw [add_at];exact h j v hv
theorem vload_ok (hr:Rel w fz al s.env a.tmps s.obj R F) (hp:Sub p s) {t:Nat} {T:TI} (hT:TF P t T) {x v:AVal} {ax:Value} (h:vload T p x=some (true,v)) (hx:EvV w fz s.obj R x ax) : ∃u,(Instr.loadAt t ax).run P w=.ok u w∧EvV w fz s.obj R v u:=by
 cases x with
 | ptr K q off=>
   simp only [EvV,EvR,EvP] at hx
   obtain ⟨o,b0,q0,ho,hw,rfl⟩:=hx
   simp only [vload] at h
   cases hpo:p.obj K with
   | none=>rw [hpo] at h;simp at h
   | some o'=>
     have:s.obj K=some o':=hp.objs K o' hpo
     rw [ho] at this;obtain rfl:=Option.some.inj this
     rw [hpo] at h
     dsimp only at h
     cases ha:T.agg with
     | true=>
       rw [ha] at h
       dsimp only at h
       cases hc:cellsAt K o.c q (off.getD 0) T.cts with
       | none=>rw [hc] at h;simp at h
       | some bv=>
         obtain ⟨b,vs⟩:=bv
         rw [hc] at h
         simp only [Option.some.injEq,Prod.mk.injEq,Bool.and_eq_true,Nat.ble_eq] at h
         obtain ⟨⟨h1,h2,h3,rfl⟩,rfl⟩:=h
         obtain ⟨us,h4,h5,h6⟩:=cells_of hr ho hw h1 h2 T.cts _ vs h3 hc
         refine ⟨.agg us.toArray,?_,by simp only [EvV];exact ⟨_,rfl,by simpa using h5⟩⟩
         have hrun:=run_cells (P:=P) (w:=w) (b:=b0) (q:=q0+off.getD 0) (us:=us) h6
         simp only [Instr.loadAt,Instr.sureAddr,loadVar,Sem.run_bind,Sem.run_pure,Result.andThen_ok,hT.isAgg,ha,if_true,hT.size,←h4,hrun]
     | false=>
       obtain ⟨ct,hct⟩:=hT.one ha
       rw [ha,hct] at h
       dsimp only at h
       cases hc:cellAt ct K o.c (offP q off) with
       | none=>rw [hc] at h;simp at h
       | some bv=>
         obtain ⟨b,v'⟩:=bv
         rw [hc] at h
         simp only [Option.some.injEq,Prod.mk.injEq,Bool.and_eq_true,Bool.or_eq_true] at h
         obtain ⟨⟨h1,h2,rfl⟩,rfl⟩:=h
         have key : ∃u,w.cell? ⟨b0,q0+off.getD 0,none⟩=some u∧EvV w fz s.obj R v' u:=by
          cases off with
          | none=>
            simp only [offP] at h1 hc
            obtain ⟨l,c,f,h3,h4,h5⟩:=at_read hr ho h1
            rw [hw] at h3;obtain rfl:=Option.some.inj h3
            obtain ⟨u,rfl,h6⟩:=cellAt_ok ho hw h4 h5 hc
            exact ⟨u,by have:=h4.hd;simpa [hdOf] using this,h6⟩
          | some k=>
            simp only [offP] at h1 hc
            have h2':aggQ (o.c.get q)=true:=by simpa using h2
            rw [okg_append] at h1
            simp only [Bool.and_eq_true] at h1
            obtain ⟨cs,hcs⟩:=agg_of h2'
            have hk:k<(o.c.get q).cells.length:=by
             have:=h1.2;rw [hcs] at this ⊢;simp [AVal.okg] at this;simpa [AVal.cells] using this
            simpa using cell_of hr ho hw h1.1 h2' hk hc
         obtain ⟨u,h3,h4⟩:=key
         exact ⟨u,by simp only [Instr.loadAt,Instr.sureAddr,loadVar,Sem.run_bind,Sem.run_pure,Result.andThen_ok,hT.isAgg,ha,Bool.false_eq_true,if_false,run_load_cell h3],h4⟩
 | rop x off=>
   simp only [EvV] at hx
   obtain ⟨b0,q0,cs,rfl,hfz,hB,hro⟩:=hx
   have hcell : ∀k u,((cs.toList.drop q0).take (width x))[k]? = some u→w.cell? ⟨b0,q0+k,none⟩=some u:=by
    intro k u hk
    rw [hB.cell]
    have:=hk
    rw [List.getElem?_take] at this
    split at this
    · simpa using this
    · simp at this
   simp only [vload] at h
   cases ha:T.agg with
   | true=>
     rw [ha] at h
     dsimp only at h
     cases hc:cosR x (off.getD 0) T.cts with
     | none=>rw [hc] at h;simp at h
     | some vs=>
       rw [hc] at h
       simp only [Option.some.injEq,Prod.mk.injEq] at h
       obtain ⟨h1,rfl⟩:=h
       obtain ⟨us,h4,h5,h6⟩:=cosR_ok (s:=s) (R:=R) hro T.cts _ vs hc h1
       refine ⟨.agg us.toArray,?_,by simp only [EvV];exact ⟨_,rfl,by simpa using h5⟩⟩
       have hrun:=run_cells (P:=P) (w:=w) (b:=b0) (q:=q0+off.getD 0) (us:=us) (fun j u hj=>by rw [Nat.add_assoc];exact hcell _ _ (h6 j u hj))
       simp only [Instr.loadAt,Instr.sureAddr,loadVar,Sem.run_bind,Sem.run_pure,Result.andThen_ok,hT.isAgg,ha,if_true,hT.size,←h4,hrun]
   | false=>
     obtain ⟨ct,hct⟩:=hT.one ha
     rw [ha,hct] at h
     dsimp only at h
     have key : ∃u,w.cell? ⟨b0,q0+off.getD 0,none⟩=some u∧EvV w fz s.obj R v u:=by
      cases off with
      | none=>
        dsimp only at h
        cases hc:coR ct x with
        | none=>rw [hc] at h;simp at h
        | some v'=>
          rw [hc] at h
          simp only [Option.some.injEq,Prod.mk.injEq] at h
          obtain ⟨h1,rfl⟩:=h
          have hna:x.cells=[x]:=by cases x <;> first|rfl|(cases ct <;> simp [CT.shape] at h1)
          obtain ⟨u,h2,h3⟩:=ro_cell hro (k:=0) (by simp [hna])
          have hx0:x.cell 0=x:=by simp [AVal.cell,hna]
          rw [hx0] at h3
          exact ⟨u,by simpa using hcell 0 u h2,coR_ok h1 hc h3⟩
      | some k=>
        dsimp only at h
        cases hc:coR ct (x.cell k) with
        | none=>rw [hc] at h;simp at h
        | some v'=>
          rw [hc] at h
          simp only [Option.some.injEq,Prod.mk.injEq] at h
          obtain ⟨h1,rfl⟩:=h
          have hk:k<x.cells.length:=by
           apply Classical.byContradiction;intro hn
           have:x.cell k=.und:=by simp [AVal.cell,List.getElem?_eq_none (Nat.not_lt.1 hn)]
           rw [this] at h1;cases ct <;> simp [CT.shape] at h1
          obtain ⟨u,h2,h3⟩:=ro_cell hro hk
          exact ⟨u,hcell k u h2,coR_ok h1 hc h3⟩
     obtain ⟨u,h3,h4⟩:=key
     exact ⟨u,by simp only [Instr.loadAt,Instr.sureAddr,loadVar,Sem.run_bind,Sem.run_pure,Result.andThen_ok,hT.isAgg,ha,Bool.false_eq_true,if_false,run_load_cell h3],h4⟩
 | _=>simp [vload] at h
theorem calm_load (hT:TOK P Φ) (hr:Rel w fz al s.env a.tmps s.obj R F) (hp:Sub p s) {o:Oper} {t:Nat} {T:TI} {x:Operand} {vx v:AVal} (ho:o.op=.load t x) (ht:Φ.ti t=some T) (hx:p.ev Φ 0 x=some vx) (h:vload T p vx=some (true,v)):Runs P a o w fz s R v:=by
 obtain ⟨u,h1,h2⟩:=vload_ok hr hp (hT.tf ht) h (ev_ok hr hp hx)
 exact ⟨u,by simp only [execOp,ho];exact run_v h1,h2⟩
end
end Go.VK
namespace Go.VK
open AVal
section
variable {P:Program} {Φ:Ctx} {w:World} {fz al:Nat→Prop} {p s:St} {a:Act} {R:RM} {F:Nat→Foot}
theorem EvL.length : ∀{xs:List AVal} {vs:List Value},EvL w fz s.obj R xs vs→vs.length=xs.length
 | [],vs,h=>by simp only [EvL] at h;simp [h]
 | x::xs,vs,h=>by simp only [EvL] at h;obtain ⟨v,r,rfl,_,h2⟩:=h;simp [EvL.length h2]
theorem EvL.at : ∀{xs:List AVal} {vs:List Value} {i:Nat},EvL w fz s.obj R xs vs→i<xs.length → ∃v,vs[i]? = some v∧EvV w fz s.obj R (xs.getD i .und) v
 | [],vs,i,_,hi=>by simp at hi
 | x::xs,vs,0,h,_=>by simp only [EvL] at h;obtain ⟨v,r,rfl,h1,_⟩:=h;exact ⟨v,rfl,by simpa using h1⟩
 | x::xs,vs,i+1,h,hi=>by
   simp only [EvL] at h;obtain ⟨v,r,rfl,_,h2⟩:=h
   obtain ⟨u,h3,h4⟩:=EvL.at (i:=i) h2 (by simpa using hi)
   exact ⟨u,by simpa using h3,by simpa using h4⟩
theorem EvL.drop : ∀{xs:List AVal} {vs:List Value} (k:Nat),EvL w fz s.obj R xs vs→EvL w fz s.obj R (xs.drop k) (vs.drop k)
 | xs,vs,0,h=>by simpa using h
 | [],vs,k+1,h=>by simp only [EvL] at h;subst h;simp [EvL]
 | x::xs,vs,k+1,h=>by simp only [EvL] at h;obtain ⟨v,r,rfl,_,h2⟩:=h;simpa using EvL.drop k h2
theorem EvL.take : ∀{xs:List AVal} {vs:List Value} (k:Nat),EvL w fz s.obj R xs vs→EvL w fz s.obj R (xs.take k) (vs.take k)
 | xs,vs,0,h=>by simp [EvL]
 | [],vs,k+1,h=>by simp only [EvL] at h;subst h;simp [EvL]
 | x::xs,vs,k+1,h=>by
   simp only [EvL] at h;obtain ⟨v,r,rfl,h1,h2⟩:=h
   simp only [List.take_succ_cons,EvL]
   exact ⟨v,_,rfl,h1,EvL.take k h2⟩
theorem size_run {u:Nat} {i:TypeInfo} (h:P.info? u=some i) (w:World):(sizeOf u).run P w=.ok i.size w:=by simp [sizeOf,typeInfo,h]
theorem calm_fieldAddr (hT:TOK P Φ) (hr:Rel w fz al s.env a.tmps s.obj R F) (hp:Sub p s) {o:Oper} {t f k u:Nat} {T:TI} {x:Operand} {vx v:AVal} (ho:o.op=.fieldAddr t x f) (ht:Φ.ti t=some T) (hx:p.ev Φ 0 x=some vx) (hf:T.offs[f]? = some (k,u))
 (h:(∃K q off,vx=.ptr K q off∧v=.ptr K q (some (off.getD 0+k))) ∨ ∃z off,vx=.rop z off∧v=.rop z (some (off.getD 0+k))):Runs P a o w fz s R v:=by
 obtain ⟨fs,g,h1,h2,rfl,rfl,i,h3,h4⟩:=(hT.tf ht).fields hf
 have ex:=ev_ok hr hp hx
 have run : ∀b q,a.eval x=.pointer (some ⟨b,q,none⟩)→(execOp a.eval o).run P w=.ok (.value (.pointer (some ⟨b,q+g.offset,none⟩))) w:=by
  intro b q hq
  simp only [execOp,ho]
  refine run_v ?_
  simp only [Instr.fieldAt,Sem.run_bind,run_und h1,Result.andThen_ok,h2,hq,Instr.sureAddr,Sem.run_pure,fieldPlace,size_run h3,if_neg (Nat.ne_of_gt h4),add_at]
 rcases h with ⟨K,q,off,rfl,rfl⟩|⟨z,off,rfl,rfl⟩
 · simp only [EvV,EvR,EvP] at ex
   obtain ⟨ob,b,q',h5,h6,h7⟩:=ex
   refine ⟨_,run b _ h7,?_⟩
   simp only [EvV,EvR,EvP]
   exact ⟨ob,b,q',h5,h6,by simp [Nat.add_assoc]⟩
 · simp only [EvV] at ex
   obtain ⟨b,q',cs,h5,h6,h7,h8⟩:=ex
   refine ⟨_,run b _ h5,?_⟩
   simp only [EvV]
   exact ⟨b,q',cs,by simp [Nat.add_assoc],h6,h7,h8⟩
theorem calm_field (hT:TOK P Φ) (hr:Rel w fz al s.env a.tmps s.obj R F) (hp:Sub p s) {o:Oper} {t f k u:Nat} {T U:TI} {x:Operand} {cs:List AVal} {v:AVal} (ho:o.op=.field t x f) (ht:Φ.ti t=some T) (hu:Φ.ti u=some U) (hx:p.ev Φ t x=some (.agg cs)) (hf:T.offs[f]? = some (k,u))
 (h:(U.agg=true∧v=.agg ((cs.drop k).take U.cts.length))∨(U.agg=false∧k<cs.length∧v=cs.getD k .und)):Runs P a o w fz s R v:=by
 obtain ⟨fs,g,h1,h2,rfl,rfl,i,h3,h4⟩:=(hT.tf ht).fields hf
 have ex:=ev_ok hr hp hx
 simp only [EvV] at ex
 obtain ⟨us,hv,hl⟩:=ex
 have run : ∀r,(part g.type us g.offset).run P w=.ok r w→(execOp a.eval o).run P w=.ok (.value r) w:=by
  intro r hr
  simp only [execOp,ho]
  refine run_v ?_
  simp only [Instr.field,Sem.run_bind,run_und h1,Result.andThen_ok,h2,hv,asAgg,Sem.run_pure,hr]
 rcases h with ⟨hU,rfl⟩|⟨hU,hk,rfl⟩
 · refine ⟨.agg (us.extract g.offset (g.offset+U.cts.length)),run _ ?_,?_⟩
   · simp only [part,Sem.run_bind,(hT.tf hu).isAgg,hU,Result.andThen_ok,if_true,(hT.tf hu).size,Sem.run_pure]
   · simp only [EvV]
     refine ⟨_,rfl,?_⟩
     rw [Array.toList_extract,List.extract_eq_take_drop]
     have:=(hl.drop g.offset).take U.cts.length
     simpa using this
 · obtain ⟨r,h5,h6⟩:=hl.at hk
   refine ⟨r,run _ ?_,h6⟩
   have h5':us[g.offset]? = some r:=by simpa using h5
   simp only [part,Sem.run_bind,(hT.tf hu).isAgg,hU,Result.andThen_ok,Bool.false_eq_true,if_false,h5',Sem.run_pure]
theorem byteAt_ok {z:ByteArray} {j:Int} (h:inB j z.size=true) : ∃b:UInt8,(if 0≤j then z[j.toNat]? else none)=some b∧byteAt z j.toNat=(b.toNat:Int):=by
 simp only [inB,Bool.and_eq_true,decide_eq_true_eq] at h
 have hlt:j.toNat<z.size:=by omega
 refine ⟨z[j.toNat],by rw [if_pos h.1];simp [hlt],?_⟩
 simp [byteAt,hlt]
theorem lenT_str (hT:TOK P Φ) {t:Nat} {z:ByteArray} (h:lenT Φ t (.str z)=true):P.underlying t=some .string:=by
 unfold lenT at h
 cases ht:Φ.ti t with
 | none=>rw [ht] at h;simp at h
 | some T=>
   rw [ht] at h
   simp only [Bool.and_eq_true,Bool.not_eq_true'] at h
   obtain ⟨ha,hc⟩:=h
   split at hc
   · rename_i hc'
     obtain ⟨i,d,z,h1,h2,h3,h4,h5,h6,h7⟩:=(hT.tf ht).info
     cases d <;> simp [descOK,ha,hc',ctOf] at h7
     · exact h2
   · simp at hc
theorem lenT_slice (hT:TOK P Φ) {t:Nat} {v:AVal} (hv : ∀z,v≠.str z) (h:lenT Φ t v=true) : ∃e i,P.underlying t=some (.slice e)∧P.info? e=some i∧i.size=Φ.szOf t:=by
 unfold lenT at h
 cases ht:Φ.ti t with
 | none=>rw [ht] at h;simp at h
 | some T=>
   rw [ht] at h
   simp only [Bool.and_eq_true,Bool.not_eq_true'] at h
   obtain ⟨ha,hc⟩:=h
   have hc2:(match T.cts with|[.slice _]=>true|_=>false)=true:=by
    cases v <;> first|exact hc|exact absurd rfl (hv _)
   split at hc2
   · rename_i sz hc'
     obtain ⟨e,i,h1,_,h2,h3⟩:=(hT.tf ht).slice ha hc'
     refine ⟨e,i,h1,h2,?_⟩
     unfold Ctx.szOf
     rw [ht]
     cases T with
     | mk ag ct el of by_=>
       simp only at ha hc'
       subst ha;subst hc'
       exact h3
   · simp at hc2
theorem calm_index (hT:TOK P Φ) (hr:Rel w fz al s.env a.tmps s.obj R F) (hp:Sub p s) {o:Oper} {t:Nat} {x y:Operand} {z:ByteArray} {k:IntKind} {j:Int} (ho:o.op=.index t x y) (hx:p.ev Φ t x=some (.str z)) (hy:p.ev Φ 0 y=some (.int k j)) (hl:lenT Φ t (.str z)=true) (hb:inB j z.size=true):Runs P a o w fz s R (.int .u8 (byteAt z j.toNat)):=by
 have ex:=ev_ok hr hp hx
 have ey:=ev_ok hr hp hy
 simp only [EvV] at ex ey
 obtain ⟨b,h1,h2⟩:=byteAt_ok hb
 refine ⟨.int .u8 b.toNat,?_,by simp only [EvV];rw [h2]⟩
 simp only [execOp,ho]
 refine run_v ?_
 simp only [Instr.index,Sem.run_bind,ex,ey,asIntOf,Sem.run_pure,Result.andThen_ok,run_und (lenT_str hT hl),h1]
end
end Go.VK
namespace Go.VK
open AVal
section
variable {P:Program} {Φ:Ctx} {w:World} {fz al:Nat→Prop} {p s:St} {a:Act} {R:RM} {F:Nat→Foot}
theorem ROX.drop {w:World} {fz:Nat→Prop} : ∀{xs:List AVal} {sz:Nat} {c:List Value} (l:Nat),ROX w fz xs sz c→l≤xs.length→ROX w fz (xs.drop l) sz (c.drop (l*sz))
 | xs,sz,c,0,h,_=>by simpa using h
 | [],sz,c,l+1,h,hl=>by simp at hl
 | x::xs,sz,c,l+1,h,hl=>by
   simp only [ROX] at h
   obtain ⟨c1,c2,rfl,h1,_,h2⟩:=h
   have e:(c1++c2).drop ((l+1)*sz)=c2.drop (l*sz):=by
    rw [Nat.add_mul,Nat.one_mul,Nat.add_comm,List.drop_append,h1];simp [List.drop_of_length_le,h1]
   rw [e]
   simpa using ROX.drop l h2 (by simpa using hl)
theorem ROX.take {w:World} {fz:Nat→Prop} : ∀{xs:List AVal} {sz:Nat} {c:List Value} (l:Nat),ROX w fz xs sz c→ROX w fz (xs.take l) sz c
 | xs,sz,c,0,h=>by simp [ROX]
 | [],sz,c,l+1,h=>by simp [ROX]
 | x::xs,sz,c,l+1,h=>by
   simp only [ROX] at h
   obtain ⟨c1,c2,rfl,h1,h3,h2⟩:=h
   simp only [List.take_succ_cons,ROX]
   exact ⟨c1,c2,rfl,h1,h3,ROX.take l h2⟩
theorem ROC.width {w:World} {fz:Nat→Prop} {x:AVal} {c:List Value} (h:ROC w fz x c):c.length=width x:=by
 cases x with
 | agg cs=>simp only [ROC] at h;simpa [VK.width] using h.length
 | _=>
   (simp only [ROC] at h) <;> first
     | (obtain ⟨b,cap,h1,_⟩:=h;simp [h1,VK.width])
     | (obtain ⟨u,h1⟩:=h;simp [h1,VK.width])
     | simp [h,VK.width]
theorem szOf_pos {t:Nat} (h:0<Φ.szOf t) : ∃T,Φ.ti t=some T∧T.agg=false∧T.cts=[.slice (Φ.szOf t)]:=by
 unfold Ctx.szOf at h ⊢
 split at h
 · rename_i sz e o b ht;exact ⟨_,ht,rfl,rfl⟩
 · omega
theorem index_run {t:Nat} {i:TypeInfo} {e:Nat} (hu:P.underlying t=some (.slice e)) (hi:P.info? e=some i) {g off len cap:Nat} {k:IntKind} {j:Int} (h0:0≤j) (h1:j<len) :
 (Instr.indexAt t (.slice (some ⟨g,off,none⟩) len cap) (.int k j)).run P w=.ok (.pointer (some ⟨g,off+j.toNat*i.size,none⟩)) w:=by
 simp only [Instr.indexAt,Sem.run_bind,asIntOf,Sem.run_pure,Result.andThen_ok,run_und hu,if_pos (And.intro h0 h1),size_run hi,add_at]
theorem own_slice {E:Env2} {sz:Nat} {x:AVal} {c:List Value} {f:Foot} {l:VK.Loc} {i:Nat} (h:RdC w fz E x c f) (hs:(CT.slice sz).shape x=true) (hi:i<x.elems.length) (hl:LocAt w l c) :
 0<sz ∧ ∃g off cap,c=[.slice (some ⟨g,off,none⟩) x.elems.length cap]∧hdOf w l=some (.slice (some ⟨g,off,none⟩) x.elems.length cap)∧walk w x l [i]=some (.mem g (off+i*sz)):=by
 cases x <;> simp [CT.shape] at hs
 · subst hs
   rename_i t z xs
   simp only [AVal.elems] at hi
   have hro:ROC w fz (.ro t z xs) c:=by
    rcases h with ⟨_,_,h⟩|h
    · simp only [OwC] at h;exact h.1
    · exact h
   simp only [ROC] at hro
   obtain ⟨b,cap,rfl,h2,_,h4⟩:=hro
   obtain ⟨hz,g,off,cs,rfl,_⟩:=h4 (by rintro rfl;simp at hi)
   refine ⟨hz,g,off,cap,rfl,hl.hd,?_⟩
   simp only [walk,if_pos hi,hl.hd]
 · subst hs
   rename_i z xs
   simp only [AVal.elems] at hi
   rcases h with ⟨f1,_,h⟩|h
   · simp only [OwC] at h
     obtain ⟨b,cap,rfl,h2,h4⟩:=h
     rcases h4 with ⟨h4,_⟩|⟨hz,g,off,cs,f',rfl,_⟩
     · omega
     · refine ⟨hz,g,off,cap,rfl,hl.hd,?_⟩
       simp only [walk,if_pos hi,hl.hd]
   · simp [ROC] at h
 · simp [AVal.elems] at hi
theorem calm_indexAddr (hT:TOK P Φ) (hr:Rel w fz al s.env a.tmps s.obj R F) (hp:Sub p s) {o:Oper} {t:Nat} {x y:Operand} {vx vy v:AVal} (ho:o.op=.indexAddr t x y) (hx:p.ev Φ t x=some vx) (hy:p.ev Φ 0 y=some vy) (h:vindexAddr (Φ.szOf t) p vx vy=some (true,v)):Runs P a o w fz s R v:=by
 have ex:=ev_ok hr hp hx
 have ey:=ev_ok hr hp hy
 have run : ∀r,(Instr.indexAt t (a.eval x) (a.eval y)).run P w=.ok r w→(execOp a.eval o).run P w=.ok (.value r) w:=by
  intro r hr
  simp only [execOp,ho]
  exact run_v hr
 unfold vindexAddr at h
 split at h
 · rename_i tt z xs k j
   simp only [EvV] at ex ey
   cases hz:Nat.beq z (Φ.szOf t) with
   | false=>rw [hz] at h;simp at h
   | true=>
     rw [hz] at h
     simp only [cond_true,Option.some.injEq,Prod.mk.injEq,inB,Bool.and_eq_true,decide_eq_true_eq] at h
     obtain ⟨⟨h0,h1⟩,rfl⟩:=h
     have hz:=Nat.eq_of_beq_eq_true hz
     obtain ⟨b,cap,h2,h3,_,h5⟩:=ro_val ex
     have hlt:j.toNat<xs.length:=by omega
     obtain ⟨hp0,g,off,cs,rfl,hg,hB,hX⟩:=h5 (by rintro rfl;simp at hlt)
     obtain ⟨T,ht,ha,hc⟩:=szOf_pos (Φ:=Φ) (t:=t) (by omega)
     obtain ⟨e,i,hu,_,hi,hsz⟩:=(hT.tf ht).slice ha hc
     refine ⟨_,run _ (by rw [h2,ey];exact index_run hu hi h0 (by omega)),?_⟩
     obtain ⟨h6,h7⟩:=ROX.at j.toNat hX hlt
     simp only [EvV]
     refine ⟨g,off+j.toNat*i.size,cs,by simp,hg,hB,?_⟩
     rw [←h7.width,h6,←List.drop_drop,hsz,←hz]
     exact h7
 · rename_i K q k j
   simp only [EvV] at ey
   cases hat:p.at K q with
   | none=>rw [hat] at h;simp at h
   | some bc=>
     obtain ⟨b,c⟩:=bc
     rw [hat] at h
     simp only [Option.some.injEq,Prod.mk.injEq,inB,Bool.and_eq_true,decide_eq_true_eq] at h
     obtain ⟨⟨⟨rfl,hs⟩,h0,h1⟩,rfl⟩:=h
     simp only [St.at] at hat
     cases hpo:p.obj K with
     | none=>rw [hpo] at hat;simp at hat
     | some ob=>
       rw [hpo] at hat
       simp only [Option.some.injEq,Prod.mk.injEq] at hat
       obtain ⟨hok,rfl⟩:=hat
       have hso:s.obj K=some ob:=hp.objs K ob hpo
       obtain ⟨l,c,f,h2,h3,h4⟩:=at_read hr hso hok
       have hlt:j.toNat<(ob.c.get q).elems.length:=by omega
       obtain ⟨hz,g,off,cap,rfl,h5,h6⟩:=own_slice h4 hs hlt h3
       simp only [EvV,EvR,EvP] at ex
       obtain ⟨ob',l',h7,h8,h9,_⟩:=ex
       rw [hso] at h7;obtain rfl:=Option.some.inj h7
       rw [h2] at h8;obtain rfl:=Option.some.inj h8
       rw [h5] at h9
       obtain ⟨T,ht,ha,hc⟩:=szOf_pos (Φ:=Φ) (t:=t) hz
       obtain ⟨e,i,hu,_,hi,hsz⟩:=(hT.tf ht).slice ha hc
       refine ⟨_,run _ (by rw [←Option.some.inj h9,ey];exact index_run hu hi h0 (by omega)),?_⟩
       simp only [EvV,EvR,EvP]
       refine ⟨ob,g,off+j.toNat*i.size,hso,?_,by simp⟩
       rw [walk_append,h2,hsz]
       exact h6
 · simp at h
theorem lenOf_ok (hr:Rel w fz al s.env a.tmps s.obj R F) (hp:Sub p s) {x:AVal} {n:Int} {v:Value} (h:lenOf p x=some (true,n)) (hx:EvV w fz s.obj R x v) (hT:TOK P Φ) {t:Nat} (hl:lenT Φ t x=true) {ty:Nat} {ats:Array TypeId} (h0:ats[0]? = some t):(Builtin.len_ ats ty #[v]).run P w=.ok (.int .i64 n) w:=by
 unfold lenOf at h
 split at h
 · rename_i z
   simp only [EvV] at hx;subst hx
   simp only [Option.some.injEq,Prod.mk.injEq,true_and] at h;subst h
   simp [Builtin.len_,h0,run_und (lenT_str hT hl),goInt]
 · rename_i tt z xs
   simp only [EvV] at hx
   obtain ⟨e,i,hu,_⟩:=lenT_slice hT (by simp) hl
   obtain ⟨b,cap,rfl,_⟩:=ro_val hx
   simp only [Option.some.injEq,Prod.mk.injEq,true_and] at h;subst h
   simp [Builtin.len_,h0,run_und hu,goInt]
 · rename_i z
   simp only [EvV] at hx;subst hx
   obtain ⟨e,i,hu,_⟩:=lenT_slice hT (by simp) hl
   simp only [Option.some.injEq,Prod.mk.injEq,true_and] at h;subst h
   simp [Builtin.len_,h0,run_und hu,goInt]
 · rename_i K q
   obtain ⟨e,i,hu,_⟩:=lenT_slice hT (by simp) hl
   cases hat:p.at K q with
   | none=>rw [hat] at h;simp at h
   | some bc=>
     obtain ⟨b,c⟩:=bc
     rw [hat] at h
     simp only [Option.some.injEq,Prod.mk.injEq,Bool.and_eq_true] at h
     obtain ⟨⟨rfl,hs⟩,rfl⟩:=h
     simp only [St.at] at hat
     cases hpo:p.obj K with
     | none=>rw [hpo] at hat;simp at hat
     | some ob=>
       rw [hpo] at hat
       simp only [Option.some.injEq,Prod.mk.injEq] at hat
       obtain ⟨hok,rfl⟩:=hat
       have hso:s.obj K=some ob:=hp.objs K ob hpo
       obtain ⟨l,c,f,h2,h3,h4⟩:=at_read hr hso hok
       simp only [EvV,EvR,EvP] at hx
       obtain ⟨ob',l',h7,h8,h9⟩:=hx
       rw [hso] at h7;obtain rfl:=Option.some.inj h7
       rw [h2] at h8;obtain rfl:=Option.some.inj h8
       have hv : ∃b cap,v=.slice b (ob.c.get q).elems.length cap:=by
        cases hg:ob.c.get q <;> rw [hg] at hs h4 <;> simp [isSl] at hs
        · rename_i t1 z1 xs1
          have hro:ROC w fz (.ro t1 z1 xs1) c:=by
           rcases h4 with ⟨_,_,h⟩|h
           · simp only [OwC] at h;exact h.1
           · exact h
          obtain ⟨b,cap,rfl,_⟩:=ro_val' hro
          rw [h3.hd] at h9;exact ⟨b,cap,(Option.some.inj h9.1).symm⟩
        · rcases h4 with ⟨_,_,h⟩|h
          · simp only [OwC] at h
            obtain ⟨b,cap,rfl,_⟩:=h
            rw [h3.hd] at h9;exact ⟨b,cap,(Option.some.inj h9.1).symm⟩
          · simp [ROC] at h
       obtain ⟨b,cap,rfl⟩:=hv
       simp [Builtin.len_,h0,run_und hu,goInt]
 · simp at h
end
end Go.VK
namespace Go.VK
open AVal
section
variable {P:Program} {Φ:Ctx} {w:World} {fz al:Nat→Prop} {p s:St} {a:Act} {R:RM} {F:Nat→Foot}
theorem builtin_run {o:Oper} {c:Call} {b:Builtin} (ho:o.op=.call c) (hc:c.callee=.builtin b) {v:Value} {w':World}
 (h : ∀consts,(builtin b c.argTypes o.type consts (c.args.map a.eval)).run P w=.ok (.value v) w'):(execOp a.eval o).run P w=.ok (.value v) w':=by
 simp only [execOp,ho,resolve,hc,Sem.run_bind,Sem.run_pure,Result.andThen_ok,invoke]
 exact h _
theorem evs_one {ts:List Nat} {xs:List Operand} {v:AVal} (h:evs Φ p ts xs=some [v]) : ∃t r x,ts=t::r∧xs=[x]∧p.ev Φ t x=some v:=by
 cases xs with
 | nil=>simp [evs] at h
 | cons x xs=>
   cases ts with
   | nil=>simp [evs] at h
   | cons t r=>
     simp only [evs] at h
     cases h1:p.ev Φ t x with
     | none=>rw [h1] at h;simp at h
     | some u=>
       cases h2:evs Φ p r xs with
       | none=>rw [h1,h2] at h;simp at h
       | some us=>
         rw [h1,h2] at h
         simp only [Option.some.injEq,List.cons.injEq] at h
         obtain ⟨rfl,rfl⟩:=h
         cases xs with
         | nil=>exact ⟨t,r,x,rfl,rfl,h1⟩
         | cons y ys=>
           cases r with
           | nil=>simp [evs] at h2
           | cons t2 r2=>
             simp only [evs] at h2
             split at h2 <;> simp at h2
theorem calm_len (hT:TOK P Φ) (hr:Rel w fz al s.env a.tmps s.obj R F) (hp:Sub p s) {o:Oper} {c:Call} {x:AVal} {n:Int} (ho:o.op=.call c) (hc:c.callee=.builtin .len) (hx:evs Φ p c.argTypes.toList c.args.toList=some [x]) (hl:lenT Φ (c.argTypes.getD 0 0) x=true) (h:lenOf p x=some (true,n)):Runs P a o w fz s R (.int .i64 n):=by
 obtain ⟨t,r,y,h1,h2,h3⟩:=evs_one hx
 have ht:c.argTypes[0]? = some t:=by rw [←Array.getElem?_toList,h1];rfl
 have ht2:c.argTypes.getD 0 0=t:=by simp [ht]
 rw [ht2] at hl
 have hargs:c.args.map a.eval = #[a.eval y]:=by
  apply Array.toList_inj.1;simp [h2]
 refine ⟨.int .i64 n,builtin_run ho hc fun consts => ?_,by simp only [EvV]⟩
 rw [hargs]
 exact run_v (lenOf_ok hr hp h (ev_ok hr hp h3) hT hl ht)
theorem rowT_slice (hT:TOK P Φ) {t:Nat} (hrow:rowT (Φ.ti t)=true) : ∃el,P.underlying t=some (.slice el):=by
 cases hti:Φ.ti t with
 | none=>rw [hti] at hrow;simp [rowT] at hrow
 | some T=>
   rw [hti] at hrow
   simp only [rowT,Bool.and_eq_true,Bool.not_eq_true'] at hrow
   obtain ⟨h1,h2⟩:=hrow
   split at h2
   · rename_i sz hc
     obtain ⟨el,i,hu,_⟩:=(hT.tf hti).slice h1 hc
     exact ⟨el,hu⟩
   · simp at h2
theorem calm_refNil (hT:TOK P Φ) (hr:Rel w fz al s.env a.tmps s.obj R F) (hp:Sub p s) {o:Oper} {op:BinOp} {t u K z:Nat} {q:List Nat} {c:AVal} {x y:Operand} (ho:o.op=.binOp op t x y u) (hx:p.ev Φ t x=some (.ref K q)) (hy:p.ev Φ u y=some (.nils z)) (hb:rowT (Φ.ti t)=true) (he:isEql op=true) (hat:p.at K q=some (true,c)) (hs:isSl c=true) (hn:c.elems.isEmpty=false):Runs P a o w fz s R (.bool false):=by
 have ex:=ev_ok hr hp hx
 have ey:=ev_ok hr hp hy
 obtain ⟨el,hu⟩:=rowT_slice hT hb
 obtain rfl:op=.eql:=by cases op <;> simp [isEql] at he <;> rfl
 have key : ∀v,(do eqGuard .eql t x y (a.eval x) (a.eval y);binOp .eql t (a.eval x) (a.eval y):Sem Value).run P w=.ok v w→(execOp a.eval o).run P w=.ok (.value v) w:=by
  intro v hq
  simp only [execOp,ho]
  exact run_v hq
 simp only [St.at] at hat
 cases hpo:p.obj K with
 | none=>rw [hpo] at hat;simp at hat
 | some ob=>
   rw [hpo] at hat
   simp only [Option.some.injEq,Prod.mk.injEq] at hat
   obtain ⟨hok,rfl⟩:=hat
   have hso:s.obj K=some ob:=hp.objs K ob hpo
   obtain ⟨l,c,f,h2,h3,h4⟩:=at_read hr hso hok
   simp only [EvV,EvR,EvP] at ex
   obtain ⟨ob',l',h7,h8,h9⟩:=ex
   rw [hso] at h7;obtain rfl:=Option.some.inj h7
   rw [h2] at h8;obtain rfl:=Option.some.inj h8
   obtain ⟨sz,hsz⟩ : ∃sz,(CT.slice sz).shape (ob.c.get q)=true:=by
    cases hg:ob.c.get q <;> rw [hg] at hs <;> simp [isSl] at hs <;> exact ⟨_,by simp [CT.shape];rfl⟩
   have hl:0<(ob.c.get q).elems.length:=by
    cases hg:(ob.c.get q).elems with
    | nil=>rw [hg] at hn;simp at hn
    | cons _ _=>simp
   obtain ⟨_,g,off,cap,rfl,h5,_⟩:=own_slice h4 hsz hl h3
   rw [h5] at h9
   have h9:=(Option.some.inj h9.1).symm
   simp only [EvV] at ey
   exact ⟨.bool false,key _ (by rw [h9,ey];simp only [Sem.run_bind,guard_sl,Result.andThen_ok,binOp,eq_sl1 hu];rfl),by simp only [EvV]⟩
theorem calm_idx (hT:TOK P Φ) (hr:Rel w fz al s.env a.tmps s.obj R F) (hp:Sub p s) {o:Oper} {c:Call} {f:Nat} {z:ByteArray} {ch:Int} (ho:o.op=.call c) (hc:c.callee=.value (.func f)) (hi:Φ.idxB=some f) (hx:evs Φ p c.argTypes.toList c.args.toList=some [.str z,.int .u8 ch]):Runs P a o w fz s R (.int .i64 (idxOf z ch)):=by
 have ex:=evs_ok hr hp hx
 obtain ⟨fn,h1,h2,h3,h4,h5⟩:=(hT.ix f hi).it
 simp only [EvL,EvV] at ex
 obtain ⟨v1,r1,e1,rfl,v2,r2,e2,rfl,e3⟩:=ex
 have hargs:(#[]:Array Value)++c.args.map a.eval++(#[]:Array Value) = #[.string z,.int .u8 ch]:=by
  apply Array.toList_inj.1;simp [e1,e2,e3]
 refine ⟨.int .i64 (idxOf z ch),?_,by simp only [EvV]⟩
 have hf:a.eval (.func f)=.func (.func f) #[] #[]:=rfl
 simp only [execOp,ho,resolve,hc,hf,Sem.run_bind,Sem.run_pure,Result.andThen_ok,Deferred.ofValue,invoke]
 rw [hargs,run_callFunc_extern h1 h2 h3 h4 h5,run_indexByte_string]
 rfl
theorem vmin_go {k:IntKind} {m:Bool} : ∀{xs:List AVal} {vs:List Value} {x:Int} {v:AVal},vmin.go m k x xs=some v→EvL w fz s.obj R xs vs → ∃n,v=.int k n∧(vs.foldlM (if m then Builtin.max2 else Builtin.min2) (.int k x)).run P w=.ok (.int k n) w
 | [],vs,x,v,h,hv=>by
   simp only [vmin.go,Option.some.injEq] at h;subst h
   simp only [EvL] at hv;subst hv
   exact ⟨x,rfl,rfl⟩
 | y::ys,vs,x,v,h,hv=>by
   simp only [EvL] at hv
   obtain ⟨u,r,rfl,h1,h2⟩:=hv
   cases y <;> simp only [vmin.go] at h <;> try (simp at h;done)
   rename_i j z
   by_cases hk:k=j
   · subst hk
     simp only [decide_true,cond_true] at h
     obtain ⟨n,h3,h4⟩:=vmin_go h h2
     refine ⟨n,h3,?_⟩
     simp only [EvV] at h1;subst h1
     rw [List.foldlM_cons,Sem.run_bind]
     cases m <;> simpa [Builtin.max2,Builtin.min2] using h4
   · rw [decide_eq_false hk] at h;simp at h
theorem calm_minmax (hr:Rel w fz al s.env a.tmps s.obj R F) (hp:Sub p s) {o:Oper} {c:Call} {m:Bool} {xs:List AVal} {v:AVal} (ho:o.op=.call c) (hc:c.callee=.builtin (if m then .max else .min)) (hx:evs Φ p c.argTypes.toList c.args.toList=some xs) (h:vmin m xs=some v):Runs P a o w fz s R v:=by
 have ex:=evs_ok hr hp hx
 cases xs with
 | nil=>simp [vmin] at h
 | cons x xs=>
   cases x <;> simp only [vmin] at h <;> try (simp at h;done)
   rename_i k n
   simp only [EvL] at ex
   obtain ⟨u,r,h1,h2,h3⟩:=ex
   simp only [EvV] at h2;subst h2
   obtain ⟨q,rfl,h4⟩:=vmin_go (P:=P) h h3
   refine ⟨.int k q,builtin_run ho hc fun consts => ?_,by simp only [EvV]⟩
   have hargs:(c.args.map a.eval).toList=.int k n::r:=by simpa using h1
   cases m
   · exact run_v (by simp only [Builtin.min_,hargs];simpa using h4)
   · exact run_v (by simp only [Builtin.max_,hargs];simpa using h4)
theorem lohi_ok {isS:Bool} {cap n:Nat} (hn:n≤cap) {lo hi:Option AVal} {vlo vhi:Option Value} {l h:Nat} (hlo : ∀x,lo=some x → ∃v,vlo=some v∧EvV w fz s.obj R x v) (hlo0:lo=none→vlo=none) (hhi : ∀x,hi=some x → ∃v,vhi=some v∧EvV w fz s.obj R x v) (hhi0:hi=none→vhi=none)
 (hb:lohi lo hi n=some (true,l,h)):l≤h∧h≤n∧(hi=none→h=n)∧(Instr.sliceBounds isS n cap vlo vhi none).run P w=.ok (l,h,cap) w:=by
 have bnd : ∀(k:IntKind) (j:Int) (y:Nat) (code:BoundsCode),0≤j→j≤y→(Instr.sliceBound (.int k j) y code).run P w=.ok j.toNat w:=by
  intro k j y code h0 h1
  simp only [Instr.sliceBound,Sem.run_bind,asIntOf,Sem.run_pure,Result.andThen_ok,if_pos (And.intro h0 h1)]
 unfold lohi at hb
 split at hb
 · simp only [Option.some.injEq,Prod.mk.injEq,true_and] at hb
   obtain ⟨rfl,rfl⟩:=hb
   rw [hlo0 rfl,hhi0 rfl]
   exact ⟨Nat.zero_le _,Nat.le_refl _,fun _=>rfl,by simp [Instr.sliceBounds]⟩
 · rename_i k j
   simp only [Option.some.injEq,Prod.mk.injEq,Bool.and_eq_true,decide_eq_true_eq] at hb
   obtain ⟨⟨h0,h1⟩,rfl,rfl⟩:=hb
   obtain ⟨v,hv,he⟩:=hlo _ rfl
   simp only [EvV] at he;subst he
   rw [hv,hhi0 rfl]
   exact ⟨by omega,Nat.le_refl _,fun _=>rfl,by simp [Instr.sliceBounds,bnd _ _ _ _ h0 h1]⟩
 · rename_i k j
   simp only [Option.some.injEq,Prod.mk.injEq,Bool.and_eq_true,decide_eq_true_eq] at hb
   obtain ⟨⟨h0,h1⟩,rfl,rfl⟩:=hb
   obtain ⟨v,hv,he⟩:=hhi _ rfl
   simp only [EvV] at he;subst he
   rw [hv,hlo0 rfl]
   have h2:j≤(cap:Int):=by omega
   exact ⟨Nat.zero_le _,by omega,by simp,by simp [Instr.sliceBounds,bnd _ _ _ _ h0 h2]⟩
 · rename_i k j k' j'
   simp only [Option.some.injEq,Prod.mk.injEq,Bool.and_eq_true,decide_eq_true_eq] at hb
   obtain ⟨⟨h0,h1,h2⟩,rfl,rfl⟩:=hb
   obtain ⟨v,hv,he⟩:=hlo _ rfl
   obtain ⟨v',hv',he'⟩:=hhi _ rfl
   simp only [EvV] at he he';subst he;subst he'
   rw [hv,hv']
   have h3:j'≤(cap:Int):=by omega
   have h4:0≤j':=by omega
   have h5:j≤(j'.toNat:Int):=by omega
   exact ⟨by omega,by omega,by simp,by simp [Instr.sliceBounds,bnd _ _ _ _ h4 h3,bnd _ _ _ _ h0 h5]⟩
 · simp at hb
end
end Go.VK
namespace Go.VK
open AVal
section
variable {P:Program} {Φ:Ctx} {w:World} {fz al:Nat→Prop} {p s:St} {a:Act} {R:RM} {F:Nat→Foot}
theorem lohi_ok3 {isS:Bool} {cap n:Nat} (hn:n≤cap) {lo hi:Option AVal} {vlo vhi:Option Value} {l h:Nat} {km:IntKind} (hlo : ∀x,lo=some x → ∃v,vlo=some v∧EvV w fz s.obj R x v) (hlo0:lo=none→vlo=none) (hhi : ∀x,hi=some x → ∃v,vhi=some v∧EvV w fz s.obj R x v) (hh:hi≠none)
 (hb:lohi lo hi n=some (true,l,h)):l≤h∧h≤n∧(Instr.sliceBounds isS n cap vlo vhi (some (.int km h))).run P w=.ok (l,h,h) w:=by
 have bnd : ∀(k:IntKind) (j:Int) (y:Nat) (code:BoundsCode),0≤j→j≤y→(Instr.sliceBound (.int k j) y code).run P w=.ok j.toNat w:=by
  intro k j y code h0 h1
  simp only [Instr.sliceBound,Sem.run_bind,asIntOf,Sem.run_pure,Result.andThen_ok,if_pos (And.intro h0 h1)]
 unfold lohi at hb
 split at hb
 · exact absurd rfl hh
 · exact absurd rfl hh
 · rename_i k j
   simp only [Option.some.injEq,Prod.mk.injEq,Bool.and_eq_true,decide_eq_true_eq] at hb
   obtain ⟨⟨h0,h1⟩,rfl,rfl⟩:=hb
   obtain ⟨v,hv,he⟩:=hhi _ rfl
   simp only [EvV] at he;subst he
   rw [hv,hlo0 rfl]
   have b1 : ∀code,(Instr.sliceBound (.int km (j.toNat:Int)) cap code).run P w=.ok j.toNat w:=fun code=>by have:=bnd km (j.toNat:Int) cap code (by omega) (by omega);rwa [Int.toNat_natCast] at this
   have b2 : ∀code,(Instr.sliceBound (.int k j) j.toNat code).run P w=.ok j.toNat w:=fun code=>bnd _ _ _ _ h0 (by omega)
   exact ⟨Nat.zero_le _,by omega,by simp only [Instr.sliceBounds,Sem.run_bind,b1,b2,Result.andThen_ok,Sem.run_pure]⟩
 · rename_i k j k' j'
   simp only [Option.some.injEq,Prod.mk.injEq,Bool.and_eq_true,decide_eq_true_eq] at hb
   obtain ⟨⟨h0,h1,h2⟩,rfl,rfl⟩:=hb
   obtain ⟨v,hv,he⟩:=hlo _ rfl
   obtain ⟨v',hv',he'⟩:=hhi _ rfl
   simp only [EvV] at he he';subst he;subst he'
   rw [hv,hv']
   have b1 : ∀code,(Instr.sliceBound (.int km (j'.toNat:Int)) cap code).run P w=.ok j'.toNat w:=fun code=>by have:=bnd km (j'.toNat:Int) cap code (by omega) (by omega);rwa [Int.toNat_natCast] at this
   have b2 : ∀code,(Instr.sliceBound (.int k' j') j'.toNat code).run P w=.ok j'.toNat w:=fun code=>bnd _ _ _ _ (by omega) (by omega)
   have b3 : ∀code,(Instr.sliceBound (.int k j) j'.toNat code).run P w=.ok j.toNat w:=fun code=>bnd _ _ _ _ h0 (by omega)
   exact ⟨by omega,by omega,by simp only [Instr.sliceBounds,Sem.run_bind,b1,b2,b3,Result.andThen_ok,Sem.run_pure]⟩
 · simp at hb
theorem ro_part {t:Bool} {sz:Nat} {xs:List AVal} {b:Option Addr} {cap m l h:Nat} {t':Bool} (hv:ROC w fz (.ro t sz xs) [.slice b xs.length cap]) (hlh:l≤h) (hhn:h≤xs.length) (hm:h≤m) (_hmc:m≤cap) (ht:t'=true→m-l=h-l) :
 ROC w fz (.ro t' sz ((xs.take h).drop l)) [.slice (if m=l then b else b.map (·.add (l*sz))) (h-l) (m-l)]:=by
 simp only [ROC] at hv ⊢
 obtain ⟨b',cap',h1,h2,_,h4⟩:=hv
 simp only [List.cons.injEq,Value.slice.injEq,and_true,true_and] at h1
 obtain ⟨rfl,rfl⟩:=h1
 have hlen:((xs.take h).drop l).length=h-l:=by simp;omega
 refine ⟨if m=l then b else b.map (·.add (l*sz)),m-l,by rw [hlen],by rw [hlen];omega,fun h=>by rw [hlen];exact ht h,fun hne => ?_⟩
 have hpos:0<h-l:=by rw [←hlen];exact List.length_pos_iff.2 hne
 have hxs:xs≠[]:=by rintro rfl;simp at hhn;omega
 obtain ⟨hz,g,off,cs,rfl,hg,hB,hX⟩:=h4 hxs
 refine ⟨hz,g,off+l*sz,cs,by rw [if_neg (by omega)];simp [add_at],hg,hB,?_⟩
 have h5:=(hX.take h).drop l (by simp;omega)
 rw [List.drop_drop] at h5
 exact h5
theorem optEv_ok (hr:Rel w fz al s.env a.tmps s.obj R F) (hp:Sub p s) {x:Option Operand} {v:Option AVal} (h:optEv Φ p x=some v):(∀y,v=some y → ∃u,x.map a.eval=some u∧EvV w fz s.obj R y u)∧(v=none→x.map a.eval=none):=by
 cases x with
 | none=>simp only [optEv,Option.some.injEq] at h;subst h;simp
 | some x=>
   simp only [optEv] at h
   cases he:p.ev Φ 0 x with
   | none=>rw [he] at h;simp at h
   | some u=>
     rw [he] at h
     simp only [Option.some.injEq] at h;subst h
     exact ⟨fun y hy=>by obtain rfl:=Option.some.inj hy;exact ⟨_,rfl,ev_ok hr hp he⟩,by simp⟩
theorem calm_slice (hT:TOK P Φ) (hr:Rel w fz al s.env a.tmps s.obj R F) (hp:Sub p s) {o:Oper} {t:Nat} {x:Operand} {lo hi mx:Option Operand} {vx v:AVal} {vlo vhi vmx:Option AVal} (ho:o.op=.slice t x lo hi mx) (hx:p.ev Φ t x=some vx) (hlo:optEv Φ p lo=some vlo) (hhi:optEv Φ p hi=some vhi) (hmx:optEv Φ p mx=some vmx) (hl:lenT Φ t vx=true) (hsl:sliceT Φ t vx=true) (h:vslice vx vlo vhi vmx=some (true,v)):Runs P a o w fz s R v:=by
 have ex:=ev_ok hr hp hx
 obtain ⟨l1,l2⟩:=optEv_ok hr hp hlo
 obtain ⟨h1,h2⟩:=optEv_ok hr hp hhi
 obtain ⟨m1,m2⟩:=optEv_ok hr hp hmx
 have run : ∀d,P.underlying t=some d→(∀n e,d≠.array n e) → ∀r,(Instr.slice t (a.eval x) (lo.map a.eval) (hi.map a.eval) (mx.map a.eval)).run P w=.ok r w→(execOp a.eval o).run P w=.ok (.value r) w:=by
  intro d hd hna r hr
  simp only [execOp,ho]
  refine run_v ?_
  simp only [Instr.sliceAt,Sem.run_bind,run_und hd,Result.andThen_ok]
  cases d <;> first|exact hr|exact absurd rfl (hna _ _)
 unfold vslice at h
 split at h
 · rename_i z
   split at h
   · rename_i b l hh hb
     simp only [Option.some.injEq,Prod.mk.injEq] at h
     obtain ⟨rfl,rfl⟩:=h
     have hu:=lenT_str hT hl
     simp only [EvV] at ex
     obtain ⟨h3,h4,h5,h6⟩:=lohi_ok (P:=P) (isS:=false) (Nat.le_refl _) l1 l2 h1 h2 hb
     refine ⟨.string (z.extract l hh),run _ hu (by simp) _ ?_,by simp only [EvV]⟩
     rw [m2 rfl]
     simp only [Instr.slice,Sem.run_bind,run_und hu,ex,Result.andThen_ok,Option.isSome_none,Bool.false_eq_true,if_false,h6,Sem.run_pure]
   · simp at h
 · rename_i tt sz xs
   obtain ⟨e,i,hu,hi',hsz⟩:=lenT_slice hT (by simp) hl
   have hsz2:sz=Φ.szOf t:=Nat.eq_of_beq_eq_true hsl
   simp only [EvV] at ex
   obtain ⟨b,cap,hv,hcap,htt,hrest⟩:=ro_val ex
   rw [hv] at ex
   split at h
   · rename_i bb l hh hb
     simp only [Option.some.injEq,Prod.mk.injEq] at h
     obtain ⟨rfl,rfl⟩:=h
     obtain ⟨h3,h4,h5,h6⟩:=lohi_ok (P:=P) (isS:=true) hcap l1 l2 h1 h2 hb
     refine ⟨.slice (if cap=l then b else b.map (·.add (l*sz))) (hh-l) (cap-l),run _ hu (by simp) _ ?_,?_⟩
     · rw [m2 rfl]
       simp only [Instr.slice,Sem.run_bind,run_und hu,hv,Result.andThen_ok,h6,Sem.run_pure,size_run hi',hsz,hsz2]
     · simp only [EvV]
       refine ro_part ex h3 h4 (by omega) (Nat.le_refl _) ?_
       intro ht
       cases vhi with
       | none=>simp only at ht;rw [htt ht,h5 rfl]
       | some _=>simp at ht
   · rename_i km m bb l hh hb
     split at h
     · simp at h
     · rename_i y
       simp only [Option.some.injEq,Prod.mk.injEq,Bool.and_eq_true,decide_eq_true_eq] at h
       obtain ⟨⟨rfl,rfl⟩,rfl⟩:=h
       obtain ⟨um,hm3,hm4⟩:=m1 _ rfl
       simp only [EvV] at hm4;subst hm4
       obtain ⟨h3,h4,h6⟩:=lohi_ok3 (P:=P) (isS:=true) (km:=km) hcap l1 l2 h1 (by simp) hb
       refine ⟨.slice (if hh=l then b else b.map (·.add (l*sz))) (hh-l) (hh-l),run _ hu (by simp) _ ?_,?_⟩
       · rw [hm3]
         simp only [Instr.slice,Sem.run_bind,run_und hu,hv,Result.andThen_ok,h6,Sem.run_pure,size_run hi',hsz,hsz2]
       · simp only [EvV]
         exact ro_part ex h3 h4 (Nat.le_refl _) (by omega) (fun _=>rfl)
   · simp at h
 · simp at h
end
end Go.VK
namespace Go.VK
open AVal
section
variable {P:Program} {Φ:Ctx} {w:World} {fz al:Nat→Prop} {p s:St} {a:Act} {R:RM} {F:Nat→Foot}
theorem TF.int {t:Nat} {T:TI} {k:IntKind} (h:TF P t T) (ha:T.agg=false) (hc:T.cts=[.int k]):P.underlying t=some (.int k):=by
 obtain ⟨i,d,z,h1,h2,h3,h4,h5,h6,h7⟩:=h.info
 cases d <;> simp [descOK,ha,hc,ctOf] at h7
 rw [h2,h7.2]
theorem TF.str {t:Nat} {T:TI} (h:TF P t T) (ha:T.agg=false) (hc:T.cts=[.str]):P.underlying t=some .string:=by
 obtain ⟨i,d,z,h1,h2,h3,h4,h5,h6,h7⟩:=h.info
 cases d <;> simp [descOK,ha,hc,ctOf] at h7
 exact h2
theorem TF.und {t:Nat} {T:TI} (h:TF P t T) : ∃d,P.underlying t=some d:=by
 obtain ⟨i,d,z,h1,h2,_⟩:=h.info;exact ⟨d,h2⟩
theorem conv_run {o:Oper} {t u:Nat} {x:Operand} {v:Value} {w':World} (ho:o.op=.convert t u x) (h:(convert t u (a.eval x)).run P w=.ok v w'):(execOp a.eval o).run P w=.ok (.value v) w':=by
 simp only [execOp,ho];exact run_v h
theorem calm_conv_int (hT:TOK P Φ) (hr:Rel w fz al s.env a.tmps s.obj R F) (hp:Sub p s) {o:Oper} {t u:Nat} {T U:TI} {x:Operand} {k j:IntKind} {n:Int} (ho:o.op=.convert t u x) (ht:Φ.ti t=some T) (hu:Φ.ti u=some U) (ha:U.agg=false) (hc:U.cts=[.int k]) (hx:p.ev Φ t x=some (.int j n)):Runs P a o w fz s R (.int k (k.wrap n)):=by
 have ex:=ev_ok hr hp hx
 simp only [EvV] at ex
 obtain ⟨d,hd⟩:=(hT.tf ht).und
 refine ⟨.int k (k.wrap n),conv_run ho ?_,by simp only [EvV]⟩
 simp only [convert,Sem.run_bind,run_und hd,run_und ((hT.tf hu).int ha hc),Result.andThen_ok,ex,Conv.intToInt,Sem.run_pure]
theorem calm_conv_str (hT:TOK P Φ) (hr:Rel w fz al s.env a.tmps s.obj R F) (hp:Sub p s) {o:Oper} {t u:Nat} {T U:TI} {x:Operand} {z:ByteArray} (ho:o.op=.convert t u x) (ht:Φ.ti t=some T) (hu:Φ.ti u=some U) (ha:U.agg=false) (hc:U.cts=[.str]) (hx:p.ev Φ t x=some (.str z)):Runs P a o w fz s R (.str z):=by
 have ex:=ev_ok hr hp hx
 simp only [EvV] at ex
 obtain ⟨d,hd⟩:=(hT.tf ht).und
 refine ⟨.string z,conv_run ho ?_,by simp only [EvV]⟩
 simp only [convert,Sem.run_bind,run_und hd,run_und ((hT.tf hu).str ha hc),Result.andThen_ok,ex,Sem.run_pure]
theorem ro_bytes {w:World} {fz:Nat→Prop} : ∀{xs:List AVal} {c:List Value},allInt .u8 xs=true→ROX w fz xs 1 c → ∀i,i<xs.length→c[i]? = some (.int .u8 ((xs.getD i .und).toInt))
 | [],c,_,_,i,hi=>by simp at hi
 | x::xs,c,ha,h,i,hi=>by
   simp only [ROX] at h
   obtain ⟨c1,c2,rfl,h1,h2,h3⟩:=h
   simp only [allInt,List.all_cons,Bool.and_eq_true] at ha
   have hx:c1=[.int .u8 x.toInt]:=by
    cases x <;> simp [CT.shape] at ha
    obtain ⟨rfl,_⟩:=ha
    simpa [ROC,AVal.toInt] using h2
   subst hx
   cases i with
   | zero=>simp
   | succ i=>
     have:=ro_bytes (xs:=xs) ha.2 h3 i (by simpa using hi)
     simpa using this
theorem own_bytes {w:World} {fz:Nat→Prop} {E:Env2} : ∀{xs:List AVal} {c:List Value} {f:Foot},allInt .u8 xs=true→OwX w fz E xs 1 c f → ∀i,i<xs.length→c[i]? = some (.int .u8 ((xs.getD i .und).toInt))
 | [],c,f,_,_,i,hi=>by simp at hi
 | x::xs,c,f,ha,h,i,hi=>by
   simp only [OwX] at h
   obtain ⟨c1,c2,f1,f2,rfl,h1,h2,h3,_⟩:=h
   simp only [allInt,List.all_cons,Bool.and_eq_true] at ha
   have hx:c1=[.int .u8 x.toInt]:=by
    cases x <;> simp [CT.shape] at ha
    obtain ⟨rfl,_⟩:=ha
    simp only [OwC] at h2
    simpa [AVal.toInt] using h2.1
   subst hx
   cases i with
   | zero=>simp
   | succ i=>
     have:=own_bytes (xs:=xs) ha.2 h3 i (by simpa using hi)
     simpa using this
theorem bytes_str (xs:List AVal):strOfNums (xs.map AVal.toInt)=bytesOfL xs:=by
 simp [strOfNums,bytesOfL]
theorem bytes_run {src dst e:Nat} (hs:P.underlying src=some (.slice e)) (he:P.underlying e=some (.int .u8)) (hd:P.underlying dst=some .string) {g off cap:Nat} {xs:List AVal} {cs:Array Value} (hB:RBlk w g cs) (hc : ∀i,i<xs.length→(cs.toList.drop off)[i]? = some (.int .u8 ((xs.getD i .und).toInt))) :
 (convert src dst (.slice (some ⟨g,off,none⟩) xs.length cap)).run P w=.ok (.string (bytesOfL xs)) w:=by
 rw [←bytes_str]
 refine run_convert_bytes_arg w src e hs he g off xs.length cap (xs.map AVal.toInt) (by simp) (fun i hi => ?_) dst hd
 rw [hB.cell]
 have:=hc i hi
 rw [List.getElem?_drop] at this
 rw [←Array.getElem?_toList,this]
 simp [List.getElem?_eq_getElem hi]
theorem calm_conv_bytes (hT:TOK P Φ) (hr:Rel w fz al s.env a.tmps s.obj R F) (hp:Sub p s) {o:Oper} {t u e:Nat} {T U E:TI} {x:Operand} {v c:AVal} (ho:o.op=.convert t u x) (ht:Φ.ti t=some T) (hta:T.agg=false) (htc:T.cts=[.slice 1]) (hte:T.elem=some e) (he:Φ.ti e=some E) (hea:E.agg=false) (hec:E.cts=[.int .u8]) (hu:Φ.ti u=some U) (ha:U.agg=false) (hc:U.cts=[.str]) (hx:p.ev Φ t x=some v) (hsl:p.sl v=some (true,c)) (hall:allInt .u8 c.elems=true) (hsh:(CT.slice 1).shape c=true):Runs P a o w fz s R (.str (bytesOfL c.elems)):=by
 have ex:=ev_ok hr hp hx
 obtain ⟨e',i,h1,h2,h3,h4⟩:=(hT.tf ht).slice hta htc
 rw [hte] at h2;obtain rfl:=Option.some.inj h2
 have hue:=(hT.tf he).int hea hec
 have huu:=(hT.tf hu).str ha hc
 have emp : ∀(b:Option Addr) (cap:Nat),(convert t u (.slice b 0 cap)).run P w=.ok (.string (bytesOfL [])) w:=by
  intro b cap
  rw [run_convert_bytes_string w t u e b 0 cap h1 hue huu]
  cases b with
  | none=>simp [Conv.bytesToString,bytesOfL];rfl
  | some b=>
    have:=run_bytesToString (P:=P) w b 0 cap [] (by simp [loadCells,loadCellsFrom])
    rw [this];rfl
 have fin : ∀{y:AVal} {c1:List Value} {f:Foot} {E1:Env2} {av:Value},RdC w fz E1 y c1 f→c1=[av]→(CT.slice 1).shape y=true→allInt .u8 y.elems=true→(convert t u av).run P w=.ok (.string (bytesOfL y.elems)) w:=by
  intro y c1 f E1 av hrd hc1 hs1 hal
  subst hc1
  cases y <;> simp [CT.shape] at hs1
  · subst hs1
    rename_i tt xs
    have hro:ROC w fz (.ro tt 1 xs) [av]:=by
     rcases hrd with ⟨_,_,h⟩|h
     · simp only [OwC] at h;exact h.1
     · exact h
    obtain ⟨b,cap,rfl,_,_,h5⟩:=ro_val hro
    cases xs with
    | nil=>exact emp b cap
    | cons y ys=>
      obtain ⟨_,g,off,cs,rfl,_,hB,hX⟩:=h5 (by simp)
      exact bytes_run h1 hue huu hB (ro_bytes hal hX)
  · subst hs1
    rename_i xs
    rcases hrd with ⟨f1,_,h⟩|h
    · simp only [OwC] at h
      obtain ⟨b,cap,hv,h2,h4⟩:=h
      simp only [List.cons.injEq,and_true] at hv;subst hv
      rcases h4 with ⟨h4,_⟩|⟨_,g,off,cs,f',rfl,hB,_,hX,_⟩
      · have:xs=[]:=List.length_eq_zero_iff.1 (by omega)
        subst this;exact emp b cap
      · exact bytes_run h1 hue huu hB.r (own_bytes hal hX)
    · simp [ROC] at h
  · rcases hrd with ⟨f1,_,h⟩|h
    · simp only [OwC] at h
      have:=h.1;simp only [List.cons.injEq,and_true] at this;subst this
      exact emp none 0
    · simp only [ROC,List.cons.injEq,and_true] at h;subst h
      exact emp none 0
 refine ⟨.string (bytesOfL c.elems),conv_run ho ?_,by simp only [EvV]⟩
 unfold St.sl at hsl
 split at hsl
 · rename_i tt z xs
   simp only [Option.some.injEq,Prod.mk.injEq,true_and] at hsl;subst hsl
   simp only [EvV] at ex
   exact fin (E1:=NoE) (f:=zf) (.inr ex) rfl hsh hall
 · rename_i z
   simp only [Option.some.injEq,Prod.mk.injEq,true_and] at hsl;subst hsl
   simp only [EvV] at ex
   rw [ex];exact emp none 0
 · rename_i K q
   simp only [St.at] at hsl
   cases hpo:p.obj K with
   | none=>rw [hpo] at hsl;simp at hsl
   | some ob=>
     rw [hpo] at hsl
     simp only [Option.some.injEq,Prod.mk.injEq] at hsl
     obtain ⟨hok,rfl⟩:=hsl
     have hso:s.obj K=some ob:=hp.objs K ob hpo
     obtain ⟨l,c1,f,h5,h6,h7⟩:=at_read hr hso hok
     simp only [EvV,EvR,EvP] at ex
     obtain ⟨ob',l',h8,h9,h10,_⟩:=ex
     rw [hso] at h8;obtain rfl:=Option.some.inj h8
     rw [h5] at h9;obtain rfl:=Option.some.inj h9
     have hone : ∃av,c1=[av]:=by
      rcases h7 with ⟨f1,_,h⟩|h
      · exact OwC.single h (by cases hg:ob.c.get q <;> rw [hg] at hsh <;> simp [CT.shape] at hsh <;> rfl)
      · have:=h.width
        have hw1:width (ob.c.get q)=1:=by cases hg:ob.c.get q <;> rw [hg] at hsh <;> simp [CT.shape] at hsh <;> rfl
        rw [hw1] at this
        exact List.length_eq_one_iff.1 this
     obtain ⟨av,rfl⟩:=hone
     rw [h6.hd] at h10;obtain hav:=Option.some.inj h10
     rw [←hav]
     exact fin h7 rfl hsh hall
 · simp at hsl
end
end Go.VK
namespace Go.VK
open AVal
section
variable {P:Program} {Φ:Ctx} {w:World} {fz al:Nat→Prop} {p s:St} {a:Act} {R:RM} {F:Nat→Foot}
def setManyV (cs:List Value) (off:Nat):List Value→List Value
 | []=>cs
 | v::vs=>setManyV (cs.set off v) (off+1) vs
theorem EvL.set : ∀{xs:List AVal} {vs:List Value} {x:AVal} {v:Value} (i:Nat),EvL w fz s.obj R xs vs→EvV w fz s.obj R x v→EvL w fz s.obj R (xs.set i x) (vs.set i v)
 | [],vs,x,v,i,h,_=>by simp only [EvL] at h;subst h;simp [EvL]
 | y::ys,vs,x,v,0,h,hx=>by simp only [EvL] at h;obtain ⟨u,r,rfl,_,h2⟩:=h;simp only [List.set,EvL];exact ⟨v,r,rfl,hx,h2⟩
 | y::ys,vs,x,v,i+1,h,hx=>by
   simp only [EvL] at h;obtain ⟨u,r,rfl,h1,h2⟩:=h
   simp only [List.set,EvL]
   exact ⟨u,_,rfl,h1,EvL.set i h2 hx⟩
theorem EvL.setMany : ∀{us:List AVal} {ws:List Value} {xs:List AVal} {vs:List Value} (off:Nat),EvL w fz s.obj R xs vs→EvL w fz s.obj R us ws→EvL w fz s.obj R (VK.setMany xs off us) (setManyV vs off ws)
 | [],ws,xs,vs,off,h,h2=>by simp only [EvL] at h2;subst h2;exact h
 | u::us,ws,xs,vs,off,h,h2=>by
   simp only [EvL] at h2;obtain ⟨v,r,rfl,h3,h4⟩:=h2
   exact EvL.setMany (off+1) (h.set off h3) h4
theorem setManyV_length : ∀(ws:List Value) (vs:List Value) (off:Nat),(setManyV vs off ws).length=vs.length
 | [],_,_=>rfl
 | w::ws,vs,off=>by simp [setManyV,setManyV_length ws]
theorem fold_set : ∀(l:List Value) (k off:Nat) (A:Array Value),((l.zipIdx k).foldl (fun (cs:Array Value) (x:Value×Nat)=>cs.setIfInBounds (off+x.2) x.1) A).toList=setManyV A.toList (off+k) l
 | [],k,off,A=>rfl
 | v::l,k,off,A=>by
   simp only [List.zipIdx_cons,List.foldl_cons,setManyV]
   rw [fold_set l (k+1) off]
   simp [Nat.add_assoc]
theorem fill_step (cells:Array Value) (off:Nat) (v:Value):(v.cells.zipIdx.foldl (fun cs (c,j)=>cs.setIfInBounds (off+j) c) cells).toList=setManyV cells.toList off v.cells.toList:=by
 rw [←Array.foldl_toList,Array.toList_zipIdx]
 exact fold_set v.cells.toList 0 off cells
theorem ref_val (_hr:Rel w fz al s.env a.tmps s.obj R F) (_hp:Sub p s) {x:AVal} {v:Value} (hx:EvV w fz s.obj R x v) (h1:p.one x=true):EvL w fz s.obj R x.cells v.cells.toList∧v.cells.size=x.cells.length:=by
 have one : ∀{y:AVal} {u:Value},EvV w fz s.obj R y u→y.cells=[y]→u.cells = #[u]→EvL w fz s.obj R y.cells u.cells.toList∧u.cells.size=y.cells.length:=by
  intro y u hy h1 h2
  rw [h1,h2]
  exact ⟨by simp only [EvL];exact ⟨u,[],rfl,hy,rfl⟩,rfl⟩
 cases x with
 | agg cs=>
   simp only [EvV] at hx
   obtain ⟨vs,rfl,h⟩:=hx
   exact ⟨by simpa [AVal.cells,Value.cells] using h,by simpa [AVal.cells,Value.cells] using h.length⟩
 | und=>simp [St.one] at h1
 | ref K q=>
   refine one hx rfl ?_
   simp only [EvV,EvR,EvP] at hx
   obtain ⟨_,_,_,_,_,h1⟩:=hx
   cases v <;> first|rfl|simp [Value.oneCell'] at h1
 | ptr K q off=>refine one hx rfl ?_;simp only [EvV,EvR,EvP] at hx;obtain ⟨_,_,_,_,_,rfl⟩:=hx;rfl
 | rop y off=>refine one hx rfl ?_;simp only [EvV] at hx;obtain ⟨_,_,_,rfl,_⟩:=hx;rfl
 | clo f cs=>refine one hx rfl ?_;simp only [EvV,EvR] at hx;obtain ⟨_,rfl,_⟩:=hx;exact cloV_cells _ _
 | tup cs=>refine one hx rfl ?_;simp only [EvV] at hx;obtain ⟨_,rfl,_⟩:=hx;rfl
 | own sz xs=>simp [EvV] at hx
 | mp kc xs=>simp [EvV] at hx
 | bool b=>refine one hx rfl ?_;simp only [EvV] at hx;subst hx;rfl
 | int k n=>refine one hx rfl ?_;simp only [EvV] at hx;subst hx;rfl
 | str z=>refine one hx rfl ?_;simp only [EvV] at hx;subst hx;rfl
 | nilp=>refine one hx rfl ?_;simp only [EvV] at hx;subst hx;rfl
 | unk=>
   refine one hx rfl ?_
   simp only [EvV] at hx
   cases v <;> first|rfl|simp [Value.oneCell'] at hx
 | nils sz=>refine one hx rfl ?_;simp only [EvV] at hx;subst hx;rfl
 | ro t sz xs=>refine one hx rfl ?_;simp only [EvV] at hx;obtain ⟨_,_,rfl,_⟩:=ro_val hx;rfl
end
end Go.VK
namespace Go.VK
open AVal
section
variable {P:Program} {Φ:Ctx} {w:World} {fz al:Nat→Prop} {p s:St} {a:Act} {R:RM} {F:Nat→Foot}
theorem zeroE_ok {T:CT} {v:Value} (h:zOK T v=true):EvV w fz s.obj R T.zeroE v:=by
 cases T <;> cases v <;> simp [zOK] at h <;> simp only [CT.zeroE,CT.zero,EvV]
 case bool.bool b=>rw [h]
 case int.int=>obtain ⟨rfl,rfl⟩:=h;rfl
 case str.string z=>
  have:z=ByteArray.empty:=by
   cases z with|mk d=>simp at h;subst h;rfl
  rw [this]
 case slice.slice sz b n c=>cases b <;> cases n <;> cases c <;> simp at h;rfl
 case ptr.pointer b=>cases b <;> simp at h;rfl
 all_goals rfl
theorem zerosE_ok : ∀{Ts:List CT} {vs:List Value},zsOK Ts vs=true→EvL w fz s.obj R (Ts.map CT.zeroE) vs
 | [],vs,h=>by cases vs <;> simp [zsOK] at h;simp [EvL]
 | T::Ts,vs,h=>by
   cases vs with
   | nil=>simp [zsOK] at h
   | cons v vs=>
     simp only [zsOK,Bool.and_eq_true] at h
     simp only [List.map_cons,EvL]
     exact ⟨v,vs,rfl,zeroE_ok h.1,zerosE_ok h.2⟩
theorem fill_ok (hr:Rel w fz al s.env a.tmps s.obj R F) (hp:Sub p s) {offs:List (Nat×Nat)} {place:Nat→Option (Nat×Nat)} {n:Nat} (hpl : ∀i off t U,offs[i]? = some (off,t)→Φ.ti t=some U→place i=some (off,U.cts.length)) :
 ∀(parts:List (Nat×Operand)) (vs:List (Nat×AVal)) (cs:List AVal) (cells:Array Value),partsOf Φ p offs n parts=some vs→EvL w fz s.obj R cs cells.toList→cells.size=n →
  ∃cells',Instr.fill place cells (parts.map fun x=>(x.1,a.eval x.2))=some cells'∧EvL w fz s.obj R (fillCells cs vs) cells'.toList
 | [],vs,cs,cells,h,hc,hn=>by
   simp only [partsOf,Option.some.injEq] at h;subst h
   exact ⟨cells,rfl,hc⟩
 | (i,x)::r,vs,cs,cells,h,hc,hn=>by
   simp only [partsOf] at h
   cases ho:offs[i]? with
   | none=>rw [ho] at h;simp at h
   | some ot=>
     obtain ⟨off,t⟩:=ot
     cases hr2:partsOf Φ p offs n r with
     | none=>rw [ho,hr2] at h;simp at h
     | some vs'=>
       rw [ho,hr2] at h
       dsimp only at h
       cases hv:p.ev Φ t x with
       | none=>rw [hv] at h;simp at h
       | some v=>
         cases hU:Φ.ti t with
         | none=>rw [hv,hU] at h;simp at h
         | some U=>
           rw [hv,hU] at h
           dsimp only at h
           cases hcnd:(p.one v&&(Nat.beq v.cells.length U.cts.length&&Nat.ble (off+v.cells.length) n)) with
           | false=>rw [hcnd] at h;simp at h
           | true=>
             rw [hcnd] at h
             simp only [cond_true,Option.some.injEq] at h;subst h
             simp only [Bool.and_eq_true,Nat.ble_eq] at hcnd
             obtain ⟨h1,h2,h3⟩:=hcnd
             have h2:=Nat.eq_of_beq_eq_true h2
             obtain ⟨h4,h5⟩:=ref_val hr hp (ev_ok hr hp hv) h1
             simp only [List.map_cons,Instr.fill,hpl i off t U ho hU]
             have hA:(a.eval x).cells.size=U.cts.length:=by rw [h5,h2]
             rw [h2] at h3
             rw [if_neg (by simp [hA];omega)]
             simp only [fillCells]
             refine fill_ok hr hp hpl r vs' _ _ hr2 ?_ ?_
             · rw [fill_step];exact hc.setMany off h4
             · have:=congrArg List.length (fill_step cells off (a.eval x))
               rw [setManyV_length] at this
               simpa [hn] using this
theorem places_of : ∀{os:List (Nat×Nat)} {fs:List Field},offsOK P os fs=true → ∃pl,fs.mapM (fun f=>(P.info? f.type).map fun i=>(f.offset,i.size))=some pl ∧ ∀(i off t:Nat),os[i]? = some (off,t) → ∃j,P.info? t=some j∧pl[i]? = some (off,j.size)
 | [],fs,h=>by
   cases fs with
   | nil=>exact ⟨[],rfl,by simp⟩
   | cons f fs=>simp [offsOK] at h
 | (k,u)::os,fs,h=>by
   cases fs with
   | nil=>simp [offsOK] at h
   | cons f fs=>
     simp only [offsOK,Bool.and_eq_true] at h
     obtain ⟨h1,h2,h3,h4⟩:=h
     have h1:=Nat.eq_of_beq_eq_true h1
     have h2:=Nat.eq_of_beq_eq_true h2
     cases hi:P.info? u with
     | none=>rw [hi] at h3;simp at h3
     | some j=>
       obtain ⟨pl,h5,h6⟩:=places_of h4
       refine ⟨(k,j.size)::pl,by simp [List.mapM_cons,h1,h2,hi,h5],?_⟩
       intro i off t ht
       cases i with
       | zero=>simp at ht;obtain ⟨rfl,rfl⟩:=ht;exact ⟨j,hi,rfl⟩
       | succ i=>simpa using h6 i off t (by simpa using ht)
theorem calm_build (hT:TOK P Φ) (hr:Rel w fz al s.env a.tmps s.obj R F) (hp:Sub p s) {o:Oper} {t:Nat} {T:TI} {parts:Array (Nat×Operand)} {vs:List (Nat×AVal)} (ho:o.op=.build t parts) (ht:Φ.ti t=some T) (ha:T.agg=true) (h:partsOf Φ p T.offs T.cts.length parts.toList=some vs):Runs P a o w fz s R (.agg (fillCells (T.cts.map CT.zeroE) vs)):=by
 obtain ⟨i,d,z,h1,h2,h3,h4,h5,h6,h7⟩:=(hT.tf ht).info
 have hz:=zerosE_ok (w:=w) (fz:=fz) (s:=s) (R:=R) h6
 have hzs:z.cells.size=T.cts.length:=by
  obtain ⟨z',h8,h9,h10⟩:=(hT.tf ht).zero
  have:=h8 w
  simp only [zeroValue,typeInfo,Sem.run_bind,run_program,Result.andThen_ok,h1,Sem.run_pure,h5] at this
  injection this with this _;rw [this];exact h10
 have hparts:(parts.map fun (x:Nat×Operand)=>(x.1,a.eval x.2)).toList=parts.toList.map fun x=>(x.1,a.eval x.2):=by simp
 have fin : ∀cells',P.built t (parts.toList.map fun x=>(x.1,a.eval x.2))=some cells'→EvL w fz s.obj R (fillCells (T.cts.map CT.zeroE) vs) cells'.toList→Runs P a o w fz s R (.agg (fillCells (T.cts.map CT.zeroE) vs)):=by
  intro cells' hb hl
  refine ⟨.agg cells',?_,by simp only [EvV];exact ⟨_,rfl,hl⟩⟩
  simp only [execOp,ho]
  exact run_v (run_build w t _ cells' (by rw [←hparts] at hb;exact hb))
 cases d with
 | struct fs=>
   simp only [descOK,Bool.and_eq_true] at h7
   obtain ⟨pl,h8,h9⟩:=places_of h7.2.1
   obtain ⟨cells',h10,h11⟩:=fill_ok hr hp (place:=(pl.toArray[·]?)) (fun i off u U hi hU=>by
    obtain ⟨j,h12,h13⟩:=h9 i off u hi
    obtain ⟨i',d',z',g1,_,g3,_⟩:=(hT.tf hU).info
    rw [h12] at g1;obtain rfl:=Option.some.inj g1
    simp [h13,g3]) parts.toList vs _ z.cells h hz hzs
   exact fin cells' (by simp only [Program.built,h1,h2,h5,h8];exact h10) h11
 | array n e=>
   simp only [descOK,Bool.and_eq_true,List.isEmpty_iff] at h7
   rw [h7.2.1.1] at h
   have hnil:parts.toList=[]∧vs=[]:=by
    cases hq:parts.toList with
    | nil=>rw [hq] at h;simp [partsOf] at h;exact ⟨rfl,h⟩
    | cons x r=>rw [hq] at h;obtain ⟨i,x⟩:=x;simp [partsOf] at h
   obtain ⟨hn1,rfl⟩:=hnil
   cases he:P.info? e with
   | none=>rw [he] at h7;simp at h7
   | some ie=>
     exact fin z.cells (by simp only [Program.built,h1,h2,h5,he,hn1];rfl) hz
 | _=>simp [descOK,ha] at h7
end
end Go.VK
namespace Go.VK
open AVal
section
variable {P:Program} {Φ:Ctx} {w:World} {fz al:Nat→Prop} {p s:St} {a:Act} {R:RM} {F:Nat→Foot}
theorem encB_inj : ∀{a b:List UInt8},encB a=encB b→a=b
 | [],[],_=>rfl
 | [],y::s,h=>by simp only [encB] at h;omega
 | x::r,[],h=>by simp only [encB] at h;omega
 | x::r,y::s,h=>by
   simp only [encB] at h
   have hx:=x.toNat_lt
   have hy:=y.toNat_lt
   have h1:x.toNat=y.toNat:=by omega
   have h2:encB r=encB s:=by omega
   rw [encB_inj h2,UInt8.toNat_inj.1 h1]
theorem kcode1_inj {c:CT} {a b:AVal} (ha:keyQ1 c a=true) (hb:keyQ1 c b=true) (h:kcode1 a=kcode1 b):a=b:=by
 cases c <;> cases a <;> simp [keyQ1] at ha <;> cases b <;> simp [keyQ1] at hb
 · obtain ⟨rfl,_⟩:=ha;obtain ⟨rfl,_⟩:=hb
   rename_i n _ m _ _
   simp only [kcode1,Bool.cond_decide] at h
   congr 1
   split at h <;> split at h <;> omega
 · simp only [kcode1] at h
   rename_i s t
   have:=encB_inj h
   cases s with|mk d=>cases t with|mk e=>simp at this;rw [this]
theorem pairN_inj {a b c d:Nat} (h:pairN a b=pairN c d):a=c∧b=d:=by
 unfold pairN at h
 have key : ∀{s t x y:Nat},x≤s→s<t→s*s+x<t*t+y:=by
  intro s t x y hx hst
  have h1:(s+1)*(s+1)≤t*t:=Nat.mul_le_mul hst hst
  have h2:(s+1)*(s+1)=s*s+s+s+1:=by rw [Nat.succ_mul,Nat.mul_succ];omega
  omega
 rcases Nat.lt_trichotomy (a+b) (c+d) with g|g|g
 · have:=key (x:=a) (y:=c) (Nat.le_add_right a b) g;omega
 · rw [g] at h;omega
 · have:=key (x:=c) (y:=a) (Nat.le_add_right c d) g;omega
theorem kcodeL_inj : ∀{cs:List CT} {as bs:List AVal},keyQs cs as=true→keyQs cs bs=true→kcodeL as=kcodeL bs→as=bs
 | [],[],[],_,_,_=>rfl
 | [],_::_,_,h,_,_=>by simp [keyQs] at h
 | [],[],_::_,_,h,_=>by simp [keyQs] at h
 | _::_,[],_,h,_,_=>by simp [keyQs] at h
 | _::_,_::_,[],_,h,_=>by simp [keyQs] at h
 | c::cs,a::as,b::bs,ha,hb,h=>by
   simp only [keyQs,Bool.and_eq_true] at ha hb
   simp only [kcodeL] at h
   obtain ⟨h1,h2⟩:=pairN_inj h
   rw [kcode1_inj ha.1 hb.1 h1,kcodeL_inj ha.2 hb.2 h2]
theorem kcode_inj {c:CT} {a b:AVal} (ha:keyQ c a=true) (hb:keyQ c b=true) (h:kcode a=kcode b):a=b:=by
 cases c <;> cases a <;> simp [keyQ] at ha <;> cases b <;> simp [keyQ] at hb
 · subst ha;subst hb
   rename_i k n m
   simp only [kcode,Bool.cond_decide] at h
   congr 1
   split at h <;> split at h <;> omega
 · simp only [kcode] at h
   rename_i s t
   have:=encB_inj h
   cases s with|mk d=>cases t with|mk e=>simp at this;rw [this]
 · simp only [kcode] at h
   rw [kcodeL_inj ha hb h]
theorem pval1_key {c:CT} {a b:AVal} (ha:keyQ1 c a=true) (hb:keyQ1 c b=true) (h:pval1 a=pval1 b):a=b:=by
 cases c <;> cases a <;> simp [keyQ1] at ha <;> cases b <;> simp [keyQ1] at hb
 · simp only [pval1,Value.int.injEq] at h;rw [h.1,h.2]
 · simp only [pval1,Value.string.injEq] at h;rw [h]
theorem pvalL_key : ∀{cs:List CT} {as bs:List AVal},keyQs cs as=true→keyQs cs bs=true→as.map pval1=bs.map pval1→as=bs
 | [],[],[],_,_,_=>rfl
 | [],_::_,_,h,_,_=>by simp [keyQs] at h
 | [],[],_::_,_,h,_=>by simp [keyQs] at h
 | _::_,[],_,h,_,_=>by simp [keyQs] at h
 | _::_,_::_,[],_,h,_=>by simp [keyQs] at h
 | c::cs,a::as,b::bs,ha,hb,h=>by
   simp only [keyQs,Bool.and_eq_true] at ha hb
   simp only [List.map_cons,List.cons.injEq] at h
   rw [pval1_key ha.1 hb.1 h.1,pvalL_key ha.2 hb.2 h.2]
theorem pval_key {c:CT} {a b:AVal} (ha:keyQ c a=true) (hb:keyQ c b=true) (h:pval a=pval b):a=b:=by
 cases c <;> cases a <;> simp [keyQ] at ha <;> cases b <;> simp [keyQ] at hb
 · simp only [pval,Value.int.injEq] at h;rw [h.1,h.2]
 · simp only [pval,Value.string.injEq] at h;rw [h]
 · simp only [pval,Value.agg.injEq] at h
   have:=congrArg Array.toList h
   rw [pvalL_key ha hb this]
theorem sameNow_eq {c:CT} {d:TypeDesc} (hd:ctOf d c=true) (hk:keyCT c=true) {a:AVal} (ha:keyQ c a=true):Instr.sameNow d (pval a) (pval a)=some true:=by
 cases c <;> simp [keyCT] at hk <;> cases d <;> simp [ctOf] at hd <;> cases a <;> simp [keyQ] at ha
 · simp [pval,Instr.sameNow]
 · simp [pval,Instr.sameNow,(MapKept.bytes_beq _ _).2]
theorem sameNow_ne {c:CT} {d:TypeDesc} (hd:ctOf d c=true) (hk:keyCT c=true) {a b:AVal} (ha:keyQ c a=true) (hb:keyQ c b=true) (hn:a≠b):Instr.sameNow d (pval a) (pval b)=some false:=by
 cases c <;> simp [keyCT] at hk <;> cases d <;> simp [ctOf] at hd <;> cases a <;> simp [keyQ] at ha <;> cases b <;> simp [keyQ] at hb
 · subst ha;subst hb
   rename_i n m
   have : ¬n=m:=fun e=>hn (by rw [e])
   simp [pval,Instr.sameNow,this]
 · rename_i s t
   have : ¬s=t:=fun e=>hn (by rw [e])
   have h2:(s==t)=false:=Bool.eq_false_iff.2 fun e=>this ((MapKept.bytes_beq _ _).1 e)
   simp [pval,Instr.sameNow,h2]
theorem findNow_ok {c:CT} {d:TypeDesc} (hd:ctOf d c=true) (hk:keyCT c=true) {k:AVal} (hq:keyQ c k=true) : ∀(es:List MapEntry) (i:Nat),(∀e∈es,∃a,keyQ c a=true∧e.key=pval a) →
 ∃r,Instr.findNow d (pval k) es i=some r∧((r=none ∧ ∀e∈es,e.key≠pval k) ∨ ∃j e,r=some (i+j,e.val)∧es[j]? = some e∧e.key=pval k)
 | [],i,_=>⟨none,rfl,.inl ⟨rfl,fun e he=>by cases he⟩⟩
 | e::es,i,h=>by
   obtain ⟨a,ha,hea⟩:=h e (by simp)
   by_cases g:k=a
   · refine ⟨some (i,e.val),?_,.inr ⟨0,e,rfl,rfl,by rw [hea,g]⟩⟩
     rw [←g] at hea
     simp only [Instr.findNow,hea,sameNow_eq hd hk hq]
   · obtain ⟨r,h1,h2⟩:=findNow_ok hd hk hq es (i+1) (fun x hx=>h x (by simp [hx]))
     refine ⟨r,by simp only [Instr.findNow,hea,sameNow_ne hd hk hq ha g,h1],?_⟩
     rcases h2 with ⟨rfl,h2⟩|⟨j,x,rfl,h3,h4⟩
     · refine .inl ⟨rfl,fun x hx => ?_⟩
       rcases List.mem_cons.1 hx with rfl|hx
       · rw [hea];exact fun q=>g (pval_key hq ha q.symm)
       · exact h2 x hx
     · exact .inr ⟨j+1,x,by simp [Nat.add_comm,Nat.add_left_comm],by simpa using h3,h4⟩
structure KeyC (P:Program) (kt:Nat) (c:CT):Prop where
 check : ∀(w:World) (em:Bool) {a:AVal},keyQ c a=true→(Instr.checkKey em 10000 kt (pval a)).run P w=.ok () w
 find : ∀(w:World) {k:AVal},keyQ c k=true → ∀es:List MapEntry,(∀e∈es,∃a,keyQ c a=true∧e.key=pval a) →
  ((Instr.findKey kt (pval k) es).run P w=.ok none w ∧ ∀e∈es,e.key≠pval k) ∨ ∃j e,(Instr.findKey kt (pval k) es).run P w=.ok (some (j,e.val)) w∧es[j]? = some e∧e.key=pval k
 stays : ∀(w:World) {k:AVal},keyQ c k=true→(Instr.keyThatStays (pval k) (pval k)).run P w=.ok (pval k) w
theorem isKey_ok {c:CT} {d:TypeDesc} (hd:ctOf d c=true) (hk:keyCT c=true) {a:AVal} (ha:keyQ c a=true):MapKept.IsKey d (pval a):=by
 cases c <;> simp [keyCT] at hk <;> cases d <;> simp [ctOf] at hd <;> cases a <;> simp [keyQ] at ha
 · subst hd;subst ha;simp [pval,MapKept.IsKey]
 · simp [pval,MapKept.IsKey]
theorem keyC_scal {kt:Nat} {c:CT} {d:TypeDesc} (hd:P.underlying kt=some d) (hdc:ctOf d c=true) (hk:keyCT c=true):KeyC P kt c where
 check:=fun w em a ha=>MapKept.run_checkKey hd (isKey_ok hdc hk ha) em 9999
 find:=fun w k hq es h=>by
  obtain ⟨r,h1,h2⟩:=findNow_ok hdc hk hq es 0 h
  have hr:=MapKept.run_findKey (w:=w) hd h1
  rcases h2 with ⟨rfl,h2⟩|⟨j,e,rfl,h3,h4⟩
  · exact .inl ⟨hr,h2⟩
  · exact .inr ⟨j,e,by simpa using hr,h3,h4⟩
 stays:=fun w k hq=>MapKept.run_keyThatStays (isKey_ok hdc hk hq)
theorem kind_wf {k:IntKind} {n:Int} (h:(decide (k.min≤n)&&decide (n≤k.max))=true):(Lit.int k n).wf=true:=h
theorem keyLits1 {f:Field} {c:CT} {v:AVal} {d:Nat} (hu:(match P.underlying f.type,c with|some (.int q),.int k=>decide (q=k)|some .string,.str=>true|_,_=>false)=true) (hq:keyQ1 c v=true) : ∃l,P.keyLits (d+1) f.type [pval1 v]=some l:=by
 cases c <;> cases v <;> simp [keyQ1] at hq
 · obtain ⟨rfl,h1,h2⟩:=hq
   cases hd:P.underlying f.type with
   | none=>rw [hd] at hu;simp at hu
   | some t=>
     rw [hd] at hu
     cases t <;> simp at hu
     subst hu
     refine ⟨_,by simp only [Program.keyLits,hd,pval1];rw [if_pos (by simp [Lit.wf,h1,h2])]⟩
 · cases hd:P.underlying f.type with
   | none=>rw [hd] at hu;simp at hu
   | some t=>
     rw [hd] at hu
     cases t <;> simp at hu
     refine ⟨_,by simp only [Program.keyLits,hd,pval1];rw [if_pos (by simpa [maxLen] using hq)]⟩
theorem keyLitsF {d:Nat} : ∀{fs:List Field} {cs:List CT} {vs:List AVal} (i:Nat) (all:List Value),keyFB P i fs cs=true→keyQs cs vs=true→all.drop i=vs.map pval1 → ∃ls,(fs.mapM fun f=>P.keyLits (d+1) f.type ((all.drop f.offset).take (P.cellsOf f.type)))=some ls
 | [],[],[],i,all,_,_,_=>⟨[],by simp⟩
 | [],_::_,_,i,all,h,_,_=>by simp [keyFB] at h
 | _::_,[],_,i,all,h,_,_=>by simp [keyFB] at h
 | [],[],_::_,i,all,_,h,_=>by simp [keyQs] at h
 | f::fs,c::cs,[],i,all,_,h,_=>by simp [keyQs] at h
 | f::fs,c::cs,v::vs,i,all,h,hq,ha=>by
   simp only [keyFB,Bool.and_eq_true] at h
   obtain ⟨_,h2,h3,h4,h5⟩:=h
   simp only [keyQs,Bool.and_eq_true] at hq
   have h2:=Nat.eq_of_beq_eq_true h2
   have h3:=Nat.eq_of_beq_eq_true h3
   obtain ⟨l,hl⟩:=keyLits1 (P:=P) (d:=d) h4 hq.1
   have ha2:all.drop (i+1)=vs.map pval1:=by
    rw [←List.drop_drop,ha];simp
   obtain ⟨ls,hls⟩:=keyLitsF (d:=d) (i+1) all h5 hq.2 ha2
   refine ⟨l::ls,?_⟩
   simp only [List.mapM_cons,h2,h3,ha,List.map_cons,List.take_succ_cons,List.take_zero,hl,hls,Option.bind_eq_bind,Option.bind_some,Option.pure_def]
theorem keyC_struct {kt m:Nat} (h:keyTB P kt (keyCs m)=true):KeyC P kt (.slice m):=by
 simp only [keyTB,Bool.and_eq_true,Nat.blt_eq] at h
 obtain ⟨h1,h2,h3,h4,h5,h6⟩:=h
 cases hu:P.underlying kt with
 | none=>rw [hu] at h1;simp at h1
 | some t=>
   rw [hu] at h1
   cases t with
   | struct fs=>
     dsimp only at h1
     have h5:=Nat.eq_of_beq_eq_true h5
     have hwide:(match P.underlying kt with|some (.array _ _)|some (.struct _)=>true|_=>false)=true:=by rw [hu]
     have law:=deep_law (m:=2) (by omega) h3 h4 hwide
     have names : ∀{fs:List Field} {cs:List CT} {i:Nat},keyFB P i fs cs=true → ∀f∈fs,(f.name != "_")=true:=by
      intro fs
      induction fs with
      | nil=>intro cs i _ f hf;simp at hf
      | cons g fs ih=>
        intro cs i hk f hf
        cases cs with
        | nil=>simp [keyFB] at hk
        | cons c cs=>
          simp only [keyFB,Bool.and_eq_true,decide_eq_true_eq] at hk
          rcases List.mem_cons.1 hf with rfl|hf
          · simpa using hk.1
          · exact ih hk.2.2.2.2 f hf
     have lit : ∀{a:AVal},keyQ (.slice m) a=true → ∃l,keyOf P kt (pval a)=some l:=by
      intro a ha
      cases a <;> simp [keyQ] at ha
      rename_i vs
      have hlen : ∀{cs:List CT} {vs:List AVal},keyQs cs vs=true→vs.length=cs.length:=by
       intro cs
       induction cs with
       | nil=>intro vs h;cases vs <;> simp [keyQs] at h ⊢
       | cons c cs ih=>intro vs h;cases vs <;> simp [keyQs] at h ⊢;exact ih h.2
      obtain ⟨n,hn⟩ : ∃n,P.types.size=n+1:=⟨P.types.size-1,by omega⟩
      obtain ⟨ls,hls⟩:=keyLitsF (P:=P) (d:=n) 0 (vs.map pval1) h1 ha (by simp)
      have hsz:(vs.map pval1).length=P.cellsOf kt:=by rw [List.length_map,h5,hlen ha]
      refine ⟨.string (keyBytes ls.flatten),?_⟩
      unfold keyOf
      rw [hu]
      dsimp only
      have hf:(pval (.agg vs)).formed P kt=true:=by
       simp only [pval,Value.formed,hu]
       simp only [beq_iff_eq,←hsz]
       simp
      rw [h2,hf]
      simp only [Bool.and_self,if_true,pval,Value.cells,hn]
      rw [show P.keyLits (n+1+1) kt (vs.map pval1).toArray.toList=some ls.flatten from ?_]
      · rfl
      · generalize n+1=D at hls ⊢
        unfold Program.keyLits
        simp only [hu]
        have hnm:(fs.all fun x=>x.name != "_")=true:=Array.all_eq_true_iff_forall_mem.2 fun f hf=>names h1 f (Array.mem_toList_iff.2 hf)
        rw [if_pos ⟨hsz,hnm⟩,hls]
        rfl
     exact {
      check:=fun w em a ha=>by obtain ⟨l,hl⟩:=lit ha;exact law.check w em hl
      find:=fun w k hq es hall=>by
       obtain ⟨l,hl⟩:=lit hq
       exact law.find w hl es fun e he=>by obtain ⟨a,ha,hea⟩:=hall e he;rw [hea];exact lit ha
      stays:=fun w k hq=>by obtain ⟨l,hl⟩:=lit hq;exact law.stays w hl }
   | _=>simp at h1
theorem mpGet_none : ∀{xs:List AVal} {c:Nat},mpGet c xs=none → ∀x∈xs,kcode (mpK x)≠c
 | [],_,_,x,hx=>by cases hx
 | y::r,c,h,x,hx=>by
   simp only [mpGet] at h
   cases g:Nat.beq (kcode (mpK y)) c with
   | true=>rw [g] at h;simp at h
   | false=>
     rw [g] at h
     rcases List.mem_cons.1 hx with rfl|hx
     · exact fun q=>by rw [q] at g;simp at g
     · exact mpGet_none h x hx
theorem mpGet_mem : ∀{xs:List AVal},xs.Pairwise (fun x y=>kcode (mpK x)<kcode (mpK y)) → ∀x∈xs,mpGet (kcode (mpK x)) xs=some (mpV x)
 | [],_,x,hx=>by cases hx
 | y::r,h,x,hx=>by
   rw [List.pairwise_cons] at h
   rcases List.mem_cons.1 hx with rfl|hx
   · simp [mpGet]
   · have:=h.1 x hx
     have g:Nat.beq (kcode (mpK y)) (kcode (mpK x))=false:=beq_ne (by omega)
     simp only [mpGet,g,cond_false]
     exact mpGet_mem h.2 x hx
theorem mp_find {kc:CT} {xs:List AVal} {es:Array MapEntry} (hm:MpOK kc xs es) {kt:Nat} (hL:KeyC P kt kc) (w:World) {k:AVal} (hq:keyQ kc k=true) :
 ∃r,(Instr.findKey kt (pval k) es.toList).run P w=.ok r w∧((r=none∧mpGet (kcode k) xs=none ∧ ∀e∈es.toList,e.key≠pval k) ∨ ∃j e x,r=some (j,e.val)∧es.toList[j]? = some e∧e.key=pval k∧x∈xs∧mpK x=k∧e.val=pval (mpV x)∧mpGet (kcode k) xs=some (mpV x)):=by
 have inx : ∀e∈es.toList,∃x∈xs,e.key=pval (mpK x)∧e.val=pval (mpV x):=fun e he=>by
  have:(e.key,e.val)∈xs.map fun x=>(pval (mpK x),pval (mpV x)):=hm.perm.mem_iff.1 (List.mem_map.2 ⟨e,he,rfl⟩)
  obtain ⟨x,hx,q⟩:=List.mem_map.1 this
  simp only [Prod.mk.injEq] at q
  exact ⟨x,hx,q.1.symm,q.2.symm⟩
 rcases hL.find w hq es.toList (fun e he=>by obtain ⟨x,hx,q,_⟩:=inx e he;exact ⟨_,(hm.ent x hx).1,q⟩) with ⟨h1,h2⟩|⟨j,e,h1,h3,h4⟩
 · refine ⟨none,h1,.inl ⟨rfl,?_,h2⟩⟩
   cases g:mpGet (kcode k) xs with
   | none=>rfl
   | some v=>
     exfalso
     have : ∃x∈xs,kcode (mpK x)=kcode k:=by
      refine Classical.byContradiction fun q => ?_
      have:mpGet (kcode k) xs=none:=by
       clear g hm inx h1 h2 hL
       induction xs with
       | nil=>rfl
       | cons y r ih=>
         have g:Nat.beq (kcode (mpK y)) (kcode k)=false:=beq_ne fun e=>q ⟨y,by simp,e⟩
         simp only [mpGet,g,cond_false]
         exact ih fun ⟨x,hx,e⟩=>q ⟨x,by simp [hx],e⟩
      rw [this] at g;cases g
     obtain ⟨x,hx,q⟩:=this
     have hxk:=kcode_inj (hm.ent x hx).1 hq q
     have:(pval k,pval (mpV x))∈es.toList.map fun e=>(e.key,e.val):=hm.perm.mem_iff.2 (List.mem_map.2 ⟨x,hx,by rw [hxk]⟩)
     obtain ⟨e,he,q2⟩:=List.mem_map.1 this
     simp only [Prod.mk.injEq] at q2
     exact h2 e he q2.1
 · obtain ⟨x,hx,q1,q2⟩:=inx e (List.mem_of_getElem? h3)
   have hxk:mpK x=k:=pval_key (hm.ent x hx).1 hq (by rw [←q1,h4])
   refine ⟨some (j,e.val),h1,.inr ⟨j,e,x,rfl,h3,h4,hx,hxk,q2,?_⟩⟩
   rw [←hxk]
   exact mpGet_mem hm.ord x hx
structure MapTOK (P:Program) (Φ:Ctx) (t kt:Nat) (c:CT) (E:TI):Prop where
 ex : ∃e,P.underlying t=some (.map kt e)∧Φ.ti e=some E∧(Φ.ti t).bind (·.elem)=some e
 ky:KeyC P kt c
 kc:mapCT c=true
 sc:scalT E=true
theorem mapT_inv (hT:TOK P Φ) {t kt:Nat} {c:CT} {E:TI} (h:Φ.mapT t=some (kt,c,E)):MapTOK P Φ t kt c E:=by
 have und : ∀{e k:Nat} {offs:List (Nat×Nat)} {bytes:Nat},Φ.ti t=some { agg:=false,cts:=[.oth],elem:=some e,key:=some k,offs:=offs,bytes:=bytes }→P.underlying t=some (.map k e):=by
  intro e k offs bytes ht
  obtain ⟨i,d,z,h1,h2,h3,h4,h5,h6,h7⟩:=(hT.tf ht).info
  have hd:d=.map k e:=by
   cases d <;> simp [descOK] at h7
   obtain ⟨_,q1,q2⟩:=h7
   simp [q1,q2]
  rw [h2,hd]
 unfold Ctx.mapT at h
 split at h
 · rename_i e k _ _ ht
   split at h
   · rename_i c' _ _ _ _ E' hk he
     simp only [Bool.cond_eq_ite] at h
     split at h
     · rename_i hb
       simp only [Option.some.injEq,Prod.mk.injEq] at h
       obtain ⟨rfl,rfl,rfl⟩:=h
       simp only [Bool.and_eq_true] at hb
       obtain ⟨i',d',z',g1,g2,g3,g4,g5,g6,g7⟩:=(hT.tf hk).info
       have hd':ctOf d' c'=true:=by
        cases d' <;> simp [descOK] at g7 <;> first|exact g7|(cases c' <;> simp_all [keyCT])
       have hm:mapCT c'=true:=by have:=hb.1;cases c' <;> simp_all [keyCT,mapCT]
       exact ⟨⟨e,und ht,he,by simp [ht]⟩,keyC_scal g2 hd' hb.1,hm,hb.2⟩
     · simp at h
   · rename_i _ _ _ _ _ E' hk he
     split at h
     · rename_i m hm
       cases hs:scalT E' with
       | false=>rw [hs] at h;simp at h
       | true=>
         rw [hs] at h
         simp only [cond_true,Option.some.injEq,Prod.mk.injEq] at h
         obtain ⟨rfl,rfl,rfl⟩:=h
         exact ⟨⟨e,und ht,he,by simp [ht]⟩,keyC_struct (hT.ky k m hm),rfl,hs⟩
     · simp at h
   · simp at h
 · simp at h
theorem keyL_ev : ∀{cs:List CT} {ks:List AVal} {vs:List Value},keyQs cs ks=true→EvL w fz s.obj R ks vs→vs=ks.map pval1
 | [],[],vs,_,h=>by simpa [EvL] using h
 | [],_::_,vs,h,_=>by simp [keyQs] at h
 | _::_,[],vs,h,_=>by simp [keyQs] at h
 | c::cs,k::ks,vs,hk,h=>by
   simp only [keyQs,Bool.and_eq_true] at hk
   simp only [EvL] at h
   obtain ⟨v,r,rfl,h1,h2⟩:=h
   rw [List.map_cons,keyL_ev hk.2 h2]
   congr 1
   have:=hk.1
   cases c <;> cases k <;> simp [keyQ1] at this <;> simpa [EvV,pval1] using h1
theorem key_ev {c:CT} {k:AVal} (hk:keyQ c k=true) {v:Value} (h:EvV w fz s.obj R k v):v=pval k:=by
 cases c <;> cases k <;> simp [keyQ] at hk
 · simpa [EvV,pval] using h
 · simpa [EvV,pval] using h
 · simp only [EvV] at h
   obtain ⟨vs,rfl,h⟩:=h
   have:=keyL_ev hk h
   simp only [pval,Value.agg.injEq]
   rw [←this]
theorem scal_shape (hT:TOK P Φ) {e:Nat} {E:TI} (he:Φ.ti e=some E) (hs:scalT E=true) {v:AVal} (h:E.shape v=true):E.co v=v∧scalV v=true∧EvV w fz s.obj R v (pval v):=by
 simp only [scalT,Bool.and_eq_true,Bool.not_eq_true'] at hs
 obtain ⟨c,hc⟩:=(hT.tf he).one hs.1
 have h1:=hs.2
 rw [hc] at h1
 simp only [TI.shape,TI.co,hs.1,hc] at h ⊢
 cases c <;> simp at h1 <;> cases v <;> simp [CT.shape] at h
 · simp [CT.co,AVal.toBool,scalV,EvV,pval]
 · subst h;simp [CT.co,AVal.toInt,scalV,EvV,pval]
 · simp [CT.co,AVal.toStr,scalV,EvV,pval]
theorem scal_zero (hT:TOK P Φ) {e:Nat} {E:TI} (he:Φ.ti e=some E) (hs:scalT E=true) : ∃z,(∀w,(zeroValue e).run P w=.ok z w)∧EvV w fz s.obj R E.zero z∧E.shape E.zero=true:=by
 simp only [scalT,Bool.and_eq_true,Bool.not_eq_true'] at hs
 obtain ⟨c,hc⟩:=(hT.tf he).one hs.1
 have h1:=hs.2
 rw [hc] at h1
 obtain ⟨i,d,z,g1,g2,g3,g4,g5,g6,g7⟩:=(hT.tf he).info
 have hf:=(hT.tf he).form i z g1 g5
 rw [hs.1] at hf
 have hz:z.cells.toList=[z]:=by cases z <;> simp [zForm] at hf <;> rfl
 rw [hc,hz] at g6
 simp only [zsOK,Bool.and_true] at g6
 refine ⟨z,fun w=>by simp [zeroValue,typeInfo,g1,g5],?_,?_⟩
 · simp only [TI.zero,hs.1,hc]
   have:=zeroE_ok (w:=w) (fz:=fz) (s:=s) (R:=R) g6
   cases c <;> simp at h1 <;> simpa [CT.zeroE] using this
 · simp only [TI.zero,TI.shape,hs.1,hc]
   cases c <;> simp at h1 <;> simp [CT.zero,CT.shape]
theorem mp_val (hr:Rel w fz al s.env a.tmps s.obj R F) (hp:Sub p s) {K:Nat} {q:List Nat} {j:CT} {xs:List AVal} {v:Value} (hkj:mapCT j=true) (hat:p.at K q=some (true,.mp j xs)) (hx:EvV w fz s.obj R (.ref K q) v) :
 ∃r es n,v=.map (some r)∧w.heap[r]? = some (.map es n)∧MpOK j xs es:=by
 simp only [St.at] at hat
 cases hpo:p.obj K with
 | none=>rw [hpo] at hat;simp at hat
 | some ob=>
   rw [hpo] at hat
   simp only [Option.some.injEq,Prod.mk.injEq] at hat
   obtain ⟨hok,hg⟩:=hat
   have hso:s.obj K=some ob:=hp.objs K ob hpo
   obtain ⟨l,c,f,h2,h3,h4⟩:=at_read hr hso hok
   simp only [EvV,EvR,EvP] at hx
   obtain ⟨ob',l',h7,h8,h9,_⟩:=hx
   rw [hso] at h7;obtain rfl:=Option.some.inj h7
   rw [h2] at h8;obtain rfl:=Option.some.inj h8
   rw [hg] at h4
   rcases h4 with ⟨f',_,h⟩|h
   · simp only [OwC] at h
     obtain ⟨r,es,n,rfl,hh,hm,_⟩:=(MpC.map hkj).1 h
     rw [h3.hd] at h9
     exact ⟨r,es,n,(Option.some.inj h9).symm,hh,hm⟩
   · simp [ROC] at h
theorem calm_lookup (hT:TOK P Φ) (hr:Rel w fz al s.env a.tmps s.obj R F) (hp:Sub p s) {o:Oper} {t kt:Nat} {c:CT} {E:TI} {x ix:Operand} {ok:Bool} {K:Nat} {q:List Nat} {k:AVal} {xs:List AVal}
 (ho:o.op=.lookup t x ix ok) (hm:Φ.mapT t=some (kt,c,E)) (h1:p.ev Φ t x=some (.ref K q)) (h2:p.ev Φ kt ix=some k) (hat:p.at K q=some (true,.mp c xs)) (hk:keyQ c k=true) (hE:E.shape ((mpGet (kcode k) xs).getD E.zero)=true) :
 Runs P a o w fz s R (bif ok then .tup [E.co ((mpGet (kcode k) xs).getD E.zero),.bool (mpGet (kcode k) xs).isSome] else E.co ((mpGet (kcode k) xs).getD E.zero)):=by
 obtain ⟨⟨e,hu,he,_⟩,hky,hkc,hsc⟩:=mapT_inv hT hm
 obtain ⟨r,es,n,hv,hh,hM⟩:=mp_val hr hp hkc hat (ev_ok hr hp h1)
 have hkv:=key_ev hk (ev_ok hr hp h2)
 obtain ⟨co,_,_⟩:=scal_shape (w:=w) (fz:=fz) (s:=s) (R:=R) hT he hsc hE
 rw [co]
 have main : ∃u,(∀b,(Instr.lookup t (a.eval x) (a.eval ix) b).run P w=.ok (if b then .tuple #[u,.bool (mpGet (kcode k) xs).isSome] else u) w)∧EvV w fz s.obj R ((mpGet (kcode k) xs).getD E.zero) u:=by
  obtain ⟨rr,hf,hc⟩:=mp_find hM hky w hk
  rcases hc with ⟨rfl,hg,_⟩|⟨jj,en,y,rfl,_,_,hy,_,hval,hg⟩
  · obtain ⟨z,hz,hev,_⟩:=scal_zero (w:=w) (fz:=fz) (s:=s) (R:=R) hT he hsc
    refine ⟨z,fun b => ?_,by rw [hg];exact hev⟩
    rw [hv,hkv,hg]
    cases b <;> simp [Instr.lookup,run_und hu,MapKept.run_getObj_map hh,hky.check w _ hk,hf,hz]
  · refine ⟨pval (mpV y),fun b => ?_,?_⟩
    · rw [hv,hkv,hg]
      cases b <;> simp [Instr.lookup,run_und hu,MapKept.run_getObj_map hh,hky.check w _ hk,hf,hval]
    · rw [hg] at hE ⊢
      exact (scal_shape (w:=w) (fz:=fz) (s:=s) (R:=R) hT he hsc hE).2.2
 obtain ⟨u,hrun,hev⟩:=main
 refine ⟨_,by simp only [execOp,ho];exact run_v (hrun ok),?_⟩
 cases ok with
 | false=>exact hev
 | true=>simp only [cond_true,EvV,EvL,if_true];exact ⟨_,rfl,u,_,rfl,hev,_,[],rfl,rfl,rfl⟩
theorem calm_lenMap (hT:TOK P Φ) (hr:Rel w fz al s.env a.tmps s.obj R F) (hp:Sub p s) {t:Nat} {v:AVal} {n:Int} {val:Value} (h:lenMap Φ p t v=some (true,n)) (hx:EvV w fz s.obj R v val) {ty:Nat} {ats:Array TypeId} (h0:ats[0]? = some t) :
 (Builtin.len_ ats ty #[val]).run P w=.ok (.int .i64 n) w:=by
 unfold lenMap at h
 split at h
 · rename_i kt c E K q hm
   split at h
   · rename_i b j xs hat
     simp only [Option.some.injEq,Prod.mk.injEq,Bool.and_eq_true,decide_eq_true_eq] at h
     obtain ⟨⟨rfl,rfl⟩,rfl⟩:=h
     obtain ⟨⟨e,hu,_⟩,_,hkc,_⟩:=mapT_inv hT hm
     obtain ⟨r,es,nn,rfl,hh,hM⟩:=mp_val hr hp hkc hat hx
     have hl:=hM.perm.length_eq
     simp only [List.length_map,Array.length_toList] at hl
     simp [Builtin.len_,h0,run_und hu,MapKept.run_getObj_map hh,goInt,hl]
   · simp at h
 · simp at h
theorem calm_lenM (hT:TOK P Φ) (hr:Rel w fz al s.env a.tmps s.obj R F) (hp:Sub p s) {o:Oper} {c:Call} {x:AVal} {n:Int} (ho:o.op=.call c) (hc:c.callee=.builtin .len) (hx:evs Φ p c.argTypes.toList c.args.toList=some [x]) (h:lenMap Φ p (c.argTypes.getD 0 0) x=some (true,n)):Runs P a o w fz s R (.int .i64 n):=by
 obtain ⟨t,r,y,h1,h2,h3⟩:=evs_one hx
 have ht:c.argTypes[0]? = some t:=by rw [←Array.getElem?_toList,h1];rfl
 have ht2:c.argTypes.getD 0 0=t:=by simp [ht]
 rw [ht2] at h
 have hargs:c.args.map a.eval = #[a.eval y]:=by
  apply Array.toList_inj.1;simp [h2]
 refine ⟨.int .i64 n,builtin_run ho hc fun consts => ?_,by simp only [EvV]⟩
 rw [hargs]
 exact run_v (calm_lenMap hT hr hp h (ev_ok hr hp h3) ht)
theorem bind_calmV {x:Option AVal} {c:Calm} (h:x.bind calmV=some c) : ∃v,x=some v∧c={ cond:=true,v:=v }:=by
 cases x with
 | none=>simp at h
 | some v=>simp [calmV] at h;exact ⟨v,rfl,h.symm⟩
theorem calm_pure (hT:TOK P Φ) (hr:Rel w fz al s.env a.tmps s.obj R F) (hp:Sub p s) {o:Oper} {d:Nat} {c:Calm} (h:calm Φ p o d=some c) (hc:c.cond=true) (hn:c.o=none) (hx:isExtract o.op=false):Runs P a o w fz s R c.v:=by
 unfold calm at h
 split at h
 · rename_i x ho
   obtain ⟨v,h1,rfl⟩:=bind_calmV h
   exact calm_move hr hp (.inl ho) h1
 · rename_i x ho
   obtain ⟨v,h1,rfl⟩:=bind_calmV h
   exact calm_move hr hp (.inr ho) h1
 · rename_i x y z ho
   split at h
   · rename_i hb
     obtain ⟨v,h1,rfl⟩:=bind_calmV h
     exact calm_pick hr hp ho hb (by simpa using h1)
   · rename_i hb
     obtain ⟨v,h1,rfl⟩:=bind_calmV h
     exact calm_pick hr hp ho hb (by simpa using h1)
   · simp at h
 · split at h
   · simp only [Option.some.injEq] at h;subst h;simp at hn
   · split at h
     · simp only [Option.some.injEq] at h;subst h;simp at hn
     · simp at h
 · split at h
   · rename_i v _
     cases hk:boxOK v with
     | false=>rw [hk] at h;simp at h
     | true=>rw [hk] at h;simp only [cond_true,Option.some.injEq] at h;subst h;simp at hn
   · simp at h
 · rename_i t parts ho
   split at h
   · rename_i T ht
     split at h
     · rename_i vs hv
       cases ha:T.agg with
       | false=>rw [ha] at h;simp at h
       | true=>
         rw [ha] at h
         simp only [cond_true,calmV,Option.some.injEq] at h;subst h
         exact calm_build hT hr hp ho ht ha hv
     · simp at h
   · simp at h
 · split at h
   · split at h
     · simp only [Bool.cond_eq_ite] at h
       split at h
       · simp only [Option.some.injEq] at h;subst h;simp at hn
       · simp at h
     · simp at h
   · simp at h
 · rename_i t x ho
   split at h
   · rename_i T q ht hq
     split at h
     · rename_i b v hv
       simp only [Option.some.injEq] at h;subst h
       simp only at hc;subst hc
       exact calm_load hT hr hp ho ht hq hv
     · simp at h
   · simp at h
 · rename_i x ho
   split at h
   · rename_i K q off hq
     simp only [calmV,Option.some.injEq] at h;subst h
     exact calm_nilCheck hr hp ho hq (.inl ⟨_,_,_,rfl⟩)
   · rename_i z off hq
     simp only [calmV,Option.some.injEq] at h;subst h
     exact calm_nilCheck hr hp ho hq (.inr ⟨_,_,rfl⟩)
   · simp at h
 · rename_i op t x y u ho
   split at h
   · rename_i xs ys ha hb
     cases hv:vbinA Φ op t xs ys with
     | none=>rw [hv] at h;simp at h
     | some v=>
       rw [hv] at h
       simp only [Option.bind_some,calmV,Option.some.injEq] at h
       subst h
       exact calm_binA hT hr hp ho ha hb hv
   · rename_i K q z ha hb
     simp only [Bool.cond_eq_ite] at h
     split at h
     · simp at h
     · rename_i hbt
       split at h
       · rename_i bb cc hat
         simp only [Option.some.injEq] at h;subst h
         simp only [Bool.and_eq_true,Bool.not_eq_true'] at hc
         obtain ⟨⟨rfl,hs⟩,hne⟩:=hc
         simp only [Bool.not_eq_true',Bool.not_eq_false,Bool.and_eq_true] at hbt
         exact calm_refNil hT hr hp ho ha hb hbt.1 hbt.2 hat hs hne
       · simp at h
   · rename_i va vb _ _ ha hb
     simp only [Bool.cond_eq_ite] at h
     split at h
     · simp at h
     · rename_i hbt
       split at h
       · rename_i cc v hv
         simp only [Option.some.injEq] at h;subst h
         simp only at hc;subst hc
         exact calm_binOp hT hr hp ho ha hb (by simpa using hbt) hv
       · simp at h
   · simp at h
 · rename_i op t x ho
   split at h
   · rename_i va ha
     split at h
     · rename_i v hv
       simp only [calmV,Option.some.injEq] at h;subst h
       exact calm_unOp hr hp ho ha hv
     · simp at h
   · simp at h
 · rename_i t u x ho
   split at h
   · rename_i T k el of by_ k2 n h1 h2 h3
     simp only [calmV,Option.some.injEq] at h;subst h
     exact calm_conv_int hT hr hp ho h1 h2 rfl rfl h3
   · rename_i T el of by_ z h1 h2 h3
     simp only [calmV,Option.some.injEq] at h;subst h
     exact calm_conv_str hT hr hp ho h1 h2 rfl rfl h3
   · split at h
     · simp only [Option.some.injEq] at h;subst h
       simp only [Bool.and_eq_true] at hc
       rename_i h1 h2 h3 _ _ _ _ _ _ _ _ h4 h5
       obtain ⟨rfl,hs1,hs2⟩:=hc
       exact calm_conv_bytes hT hr hp ho h1 rfl rfl rfl h4 rfl rfl h2 rfl rfl h3 h5 hs2 hs1
     · simp at h
   · split at h
     · simp only [Option.some.injEq] at h;subst h;simp at hn
     · simp at h
   · simp at h
 · split at h
   · split at h
     · simp only [Option.some.injEq] at h;subst h;simp at hn
     · simp at h
   · simp at h
 · rename_i t x lo hi mx ho
   split at h
   · rename_i v l hh m h1 h2 h3 h4
     simp only [Bool.cond_eq_ite] at h
     split at h
     · simp at h
     · rename_i hb
       split at h
       · rename_i bb r hv
         simp only [Option.some.injEq] at h;subst h
         simp only at hc;subst hc
         simp only [Bool.not_eq_true',Bool.not_eq_false,Bool.and_eq_true] at hb
         exact calm_slice hT hr hp ho h1 h2 h3 h4 hb.1 hb.2 hv
       · simp at h
   · simp at h
 · rename_i t x f ho
   split at h
   · rename_i T K q off ht hq
     split at h
     · rename_i k u hf
       simp only [calmV,Option.some.injEq] at h;subst h
       exact calm_fieldAddr hT hr hp ho ht hq hf (.inl ⟨_,_,_,rfl,rfl⟩)
     · simp at h
   · rename_i T z off ht hq
     split at h
     · rename_i k u hf
       simp only [calmV,Option.some.injEq] at h;subst h
       exact calm_fieldAddr hT hr hp ho ht hq hf (.inr ⟨_,_,rfl,rfl⟩)
     · simp at h
   · simp at h
 · rename_i t x f ho
   split at h
   · rename_i T cs ht hq
     split at h
     · rename_i k u hf
       split at h
       · rename_i U hU
         simp only [Bool.cond_eq_ite] at h
         split at h
         · rename_i hag
           simp only [calmV,Option.some.injEq] at h;subst h
           exact calm_field hT hr hp ho ht hU hq hf (.inl ⟨hag,rfl⟩)
         · rename_i hag
           split at h
           · rename_i hk
             simp only [calmV,Option.some.injEq] at h;subst h
             exact calm_field hT hr hp ho ht hU hq hf (.inr ⟨by simpa using hag,by simpa using hk,rfl⟩)
           · simp at h
       · simp at h
     · simp at h
   · simp at h
 · rename_i t x i ho
   split at h
   · rename_i v j h1 h2
     split at h
     · rename_i b r hv
       simp only [Option.some.injEq] at h;subst h
       simp only at hc;subst hc
       exact calm_indexAddr hT hr hp ho h1 h2 hv
     · simp at h
   · simp at h
 · rename_i t x i ho
   split at h
   · rename_i z k j h1 h2
     simp only [Bool.cond_eq_ite] at h
     split at h
     · simp at h
     · rename_i hb
       simp only [Option.some.injEq] at h;subst h
       exact calm_index hT hr hp ho h1 h2 (by simpa using hb) hc
   · simp at h
 · split at h
   · simp only [Option.some.injEq] at h;subst h;simp at hn
   · simp at h
 · rename_i t x ix ok ho
   split at h
   · rename_i kt cc E hm
     split at h
     · rename_i K q k h1 h2
       split at h
       · rename_i b j xs hat
         simp only [Option.some.injEq] at h;subst h
         simp only [Bool.and_eq_true,decide_eq_true_eq] at hc
         obtain ⟨rfl,rfl,hk,hE⟩:=hc
         exact calm_lookup hT hr hp ho hm h1 h2 hat hk hE
       · simp at h
     · simp at h
   · simp at h
 · rename_i x i ho
   exfalso
   split at h
   · rename_i vs hq
     cases x with
     | tmp t=>rw [ho] at hx;simp [isExtract] at hx
     | const c=>exact (constV_keys (show constV Φ 0 c=some (.tup vs) from hq)).2 _ rfl
     | func f=>simp only [St.ev,Bool.cond_eq_ite] at hq;split at hq <;> simp at hq
     | global g=>simp [St.ev] at hq
   · simp at h
 · rename_i f first captured ho
   split at h
   · rename_i vs hv
     simp only [Bool.cond_eq_ite] at h
     split at h
     · rename_i hb
       split at h
       · simp at h
       · rename_i hbn
         simp only [calmV,Option.some.injEq] at h;subst h
         simp only [Bool.and_eq_true] at hb
         exact calm_makeFunc hr hp ho hb.1 (by rw [Bool.not_eq_true] at hbn;exact hbn) hv hb.2
     · split at h
       · rename_i us hu
         split at h
         · rename_i hb
           simp only [calmV,Option.some.injEq] at h;subst h
           simp only [Bool.and_eq_true] at hb
           exact calm_makeBnd hr hp ho hb.1 hu hb.2
         · simp at h
       · simp at h
   · simp at h
 · rename_i args argTypes ho
   split at h
   · rename_i v hv
     split at h
     · rename_i bb n hl
       simp only [Option.some.injEq] at h;subst h
       simp only at hc;subst hc
       exact calm_lenM hT hr hp ho rfl hv hl
     · simp only [Bool.cond_eq_ite] at h
       split at h
       · simp at h
       · rename_i hb
         split at h
         · rename_i bb n hl
           simp only [Option.some.injEq] at h;subst h
           simp only at hc;subst hc
           exact calm_len hT hr hp ho rfl hv (by simpa using hb) hl
         · simp at h
   · simp at h
 · rename_i args argTypes ho
   split at h
   · rename_i vs hv
     obtain ⟨v,h1,rfl⟩:=bind_calmV h
     exact calm_minmax (m:=true) hr hp ho rfl hv h1
   · simp at h
 · rename_i args argTypes ho
   split at h
   · rename_i vs hv
     obtain ⟨v,h1,rfl⟩:=bind_calmV h
     exact calm_minmax (m:=false) hr hp ho rfl hv h1
   · simp at h
 · rename_i f args argTypes ho
   split at h
   · rename_i g hg
     simp only [Bool.cond_eq_ite] at h
     split at h
     · rename_i hb
       have hb:=Nat.eq_of_beq_eq_true hb
       subst hb
       split at h
       · rename_i z ch hv
         simp only [calmV,Option.some.injEq] at h;subst h
         exact calm_idx hT hr hp ho rfl hg hv
       · simp at h
     · simp at h
   · simp at h
 · simp at h
end
end Go.VK
namespace Go.VK
open AVal
section
variable {P:Program} {Φ:Ctx} {w w':World} {fz al:Nat→Prop} {p s:St} {a:Act} {R:RM} {F:Nat→Foot}
structure Grow (w w':World) (al:Nat→Prop):Prop where
 keep:Keep w al w'
 same : ∀b,b<w.heap.size→w'.heap[b]? = w.heap[b]?
theorem rd_blocks {fz:Nat→Prop} (hfz : ∀b,fz b→b<w.heap.size) {E:Env2} {x:AVal} {c:List Value} {f:Foot} (h:OwC w fz E x c f) : ∀b,0<f b∨fz b→b<w.heap.size:=fun b hb=>hb.elim (OwC.lt _ _ _ _ h b) (hfz b)
theorem stab_grow (hr:Rel w fz al s.env a.tmps s.obj R F) (hg:Grow w w' al) {O1:OM} {R1:RM} (hO : ∀K u,s.obj K=some u→O1 K=some u∧R1 K=R K):Stab w w' s.obj O1 R R1 [] [] []:=by
 refine ⟨fun K u hu _ => ?_⟩
 obtain ⟨h1,h2⟩:=hO K u hu
 obtain ⟨c,f0,h3,h4,h5,h6,h7⟩:=(hr.obj K u hu).loc
 have hbl : ∀b,0<f0 b∨fz b→w'.heap[b]? = w.heap[b]? := fun b hb=>hg.same b (rd_blocks hr.lt h3 b hb)
 have hloc : ∀b o,R K=.mem b o→w'.heap[b]? = w.heap[b]? := fun b o hbo=>hg.same b ((hr.obj K u hu).lt (h7 b o hbo))
 refine ⟨u,h1,h2,fun _=>hdOf_same hloc,fun q _ l hw => ?_⟩
 obtain ⟨e1,e2⟩:=walk_same q _ u.c c f0 (R K) (.inl ⟨f0,fun _=>Nat.le_refl _,h3⟩) h4 h5 hbl hloc
 exact ⟨by rw [e1];exact hw,e2 l hw⟩
def upR (R:RM) (K:Nat) (l:VK.Loc):RM:=fun J=>if J=K then l else R J
theorem effOK_new (hr:Rel w fz al s.env a.tmps s.obj R F) (hg:Grow w w' al) {M:List Nat} {e:Eff} {d:Nat} {ob:VObj} {l:VK.Loc} {f:Foot} (hfr:s.obj d=none) (hmix:Mix M s.obj e.objs=upO s.obj d (some ob)) (hsub : ∀K o,lk e.objs K=some o→K∈M) (hk:e.ka=[]∧e.ki=[]∧e.kr=[])
 (hob:OwO w' fz NoE ob l f) (hf1 : ∀b,f b≤1) (hfn : ∀b,0<f b→w.heap.size≤b∧al b):EffOK w fz al s.obj R M e w' fz (upR R d l) (upF F d f):=by
 have hlt : ∀K o,s.obj K=some o → ∀b,0<F K b→b<w.heap.size:=fun K o ho b hb=>(hr.obj K o ho).lt hb
 have hne : ∀K o,s.obj K=some o→K≠d:=by rintro K o ho rfl;rw [hfr] at ho;simp at ho
 refine ⟨?_,hsub,fun b hb=>⟨hb,hg.same b (hr.lt b hb)⟩,?_,hg.keep⟩
 · rw [hmix]
   have hE:keepE (fun _=>false) NoE (EvR w s.obj R):=fun _ _ _ h=>h.elim
   refine ⟨fun K o ho => ?_,fun K o ho b => ?_,fun K o J u hKJ ho hu b => ?_,fun K o ho b hb => ?_,fun _=>Nat.zero_le _,fun _ _ _ _=>.inr rfl,fun b hb=>by simp [zf] at hb,fun b hb=>Nat.lt_of_lt_of_le (hr.lt b hb) hg.keep.size⟩
   · simp only [upO] at ho
     split at ho
     · rename_i hK;subst hK
       obtain rfl:=Option.some.inj ho
       simp only [upR,upF,if_true]
       unfold OwO at hob ⊢
       split
       · rename_i hb
         rw [if_pos hb] at hob
         obtain ⟨b,cs,f',h1,h2,h3,h4⟩:=hob
         exact ⟨b,cs,f',h1,h2,OwC.mono (fun b hb=>⟨hb,rfl⟩) _ NoE _ hE _ _ (fun _ _=>rfl) h3,h4⟩
       · rename_i hb
         rw [if_neg hb] at hob
         obtain ⟨v,h1,h2,h3⟩:=hob
         exact ⟨v,h1,OwC.mono (fun b hb=>⟨hb,rfl⟩) _ NoE _ hE _ _ (fun _ _=>rfl) h2,h3⟩
     · rename_i hK
       simp only [upR,upF,if_neg hK]
       exact OwO.mono (fun b hb=>⟨hb,hg.same b (hr.lt b hb)⟩) (fun b hb=>hg.same b (hlt K o ho b hb)) (hr.obj K o ho)
   · simp only [upO] at ho
     split at ho
     · rename_i hK;subst hK;simp only [upF,if_true];exact hf1 b
     · rename_i hK;simp only [upF,if_neg hK];exact hr.one K o ho b
   · have key : ∀K o,s.obj K=some o→F K b=0∨f b=0:=by
      intro K o ho
      by_cases h0:f b=0
      · exact .inr h0
      · left
        apply Classical.byContradiction;intro hn
        have h1:=hlt K o ho b (by omega)
        have h2:=(hfn b (by omega)).1
        omega
     simp only [upO] at ho hu
     split at ho
     · rename_i hK;subst hK
       rw [if_neg (Ne.symm hKJ)] at hu
       simp only [upF,if_true,if_neg (Ne.symm hKJ)]
       exact (key J u hu).symm
     · rename_i hK
       split at hu
       · rename_i hJ;subst hJ
         simp only [upF,if_true,if_neg hK]
         exact key K o ho
       · rename_i hJ
         simp only [upF,if_neg hK,if_neg hJ]
         exact hr.dis K o J u hKJ ho hu b
   · simp only [upO] at ho
     split at ho
     · rename_i hK;subst hK
       simp only [upF,if_true] at hb
       have:=hfn b hb
       exact ⟨this.2,fun h=>by have:=hr.lt b h;omega⟩
     · rename_i hK
       simp only [upF,if_neg hK] at hb
       exact hr.own K o ho b hb
 · rw [hk.1,hk.2.1,hk.2.2,hmix]
   refine stab_grow hr hg fun K u hu => ?_
   have:=hne K u hu
   exact ⟨by simp only [upO,if_neg this];exact hu,by simp only [upR,if_neg this]⟩
end
end Go.VK
namespace Go.VK
open AVal
section
variable {P:Program} {Φ:Ctx} {w w':World} {fz al:Nat→Prop} {p s:St} {a:Act} {R:RM} {F:Nat→Foot}
theorem zero_own {E:Env2} {T:CT} {v:Value} (h:zOK T v=true):OwC w fz E T.zero [v] zf:=by
 cases T <;> cases v <;> simp [zOK] at h <;> simp only [CT.zero,OwC]
 case bool.bool b=>rw [h];exact ⟨rfl,fun _=>rfl⟩
 case int.int=>obtain ⟨rfl,rfl⟩:=h;exact ⟨rfl,fun _=>rfl⟩
 case str.string z=>
  have:z=ByteArray.empty:=by
   cases z with|mk d=>simp at h;subst h;rfl
  rw [this];exact ⟨rfl,fun _=>rfl⟩
 case slice.slice sz b n c=>cases b <;> cases n <;> cases c <;> simp at h;exact ⟨none,0,rfl,Nat.le_refl _,.inl ⟨rfl,fun _=>rfl⟩⟩
 case ptr.pointer b=>cases b <;> simp at h;exact ⟨rfl,fun _=>rfl⟩
 all_goals exact ⟨⟨_,rfl,rfl⟩,fun _=>rfl⟩
theorem zeros_own {E:Env2} : ∀{Ts:List CT} {vs:List Value},zsOK Ts vs=true→OwL w fz E (Ts.map CT.zero) vs zf
 | [],vs,h=>by cases vs <;> simp [zsOK] at h;simp [OwL,zf]
 | T::Ts,vs,h=>by
   cases vs with
   | nil=>simp [zsOK] at h
   | cons v vs=>
     simp only [zsOK,Bool.and_eq_true] at h
     simp only [List.map_cons,OwL]
     exact ⟨v,vs,zf,zf,rfl,zero_own h.1,zeros_own h.2,fun _=>rfl⟩
theorem grow_push (w:World) (al:Nat→Prop) (ob:Obj) (n:Nat):Grow w { w with heap:=w.heap.push ob,drawn:=n } al:=by
 refine ⟨⟨rfl,rfl,rfl,by simp,fun b hb _ => ?_⟩,fun b hb => ?_⟩ <;> (simp only;rw [Array.getElem?_push_lt hb,Array.getElem?_eq_getElem hb])
end
end Go.VK
namespace Go.VK
open AVal
section
variable {P:Program} {Φ:Ctx} {w w':World} {fz al:Nat→Prop} {p s:St} {a:Act} {R:RM} {F:Nat→Foot}
def Post (w:World) (fz al:Nat→Prop) (s:St) (R:RM) (M:List Nat) (e:Eff) (v:Value) (w':World):Prop:=
 ∃fz' R1 F1,EffOK w fz al s.obj R M e w' fz' R1 F1∧(∀x,e.v=some x→EvV w' fz' (Mix M s.obj e.objs) R1 x v)∧(∀b,fz' b→fz b∨al b) ∧ ∀K,passBase≤K→R1 K=R K
def RunsTo (P:Program) (a:Act) (o:Oper) (w:World) (fz al:Nat→Prop) (s:St) (R:RM) (M:List Nat) (e:Eff):Prop:=
 ∃res v w',(execOp a.eval o).run P w=.ok res w'∧(res=.value v∨res=.skip∧v=undef)∧Post w fz al s R M e v w'
theorem Runs.to {o:Oper} {x:AVal} {M:List Nat} {e:Eff} (h:Runs P a o w fz s R x) (hr:Rel w fz al s.env a.tmps s.obj R F) (hv:e.v=some x) (hp : ∀K,K∈M→lk e.objs K=s.obj K) (hsub : ∀K o,lk e.objs K=some o→K∈M):RunsTo P a o w fz al s R M e:=by
 obtain ⟨v,h1,h2⟩:=h
 refine ⟨_,v,w,h1,.inl rfl,fz,R,F,EffOK.same hr hp hsub,?_,fun b hb=>.inl hb,fun _ _=>rfl⟩
 intro y hy
 rw [hv] at hy;obtain rfl:=Option.some.inj hy
 have hmix:Mix M s.obj e.objs=s.obj:=by
  funext K;simp only [Mix];split
  · rename_i h;exact hp K h
  · rfl
 rw [hmix];exact h2
theorem new_box (hr:Rel w fz al s.env a.tmps s.obj R F) (hal : ∀b,w.heap.size≤b→al b) {o:Oper} {M:List Nat} {e:Eff} {d n:Nat} {c:AVal} {cs:Array Value} {el:Nat} (hfr:s.obj d=none) (hd:d<passBase) (hmix:Mix M s.obj e.objs=upO s.obj d (some { box:=true,c:=c })) (hsub : ∀K o,lk e.objs K=some o→K∈M) (hk:e.ka=[]∧e.ki=[]∧e.kr=[]) (hv:e.v=some (.ptr d [] none))
 (hrun:(execOp a.eval o).run P w=.ok (.value (.pointer (some ⟨w.heap.size,0,none⟩))) { w with heap:=w.heap.push (.cells cs el),drawn:=n })
 (hc:OwC { w with heap:=w.heap.push (.cells cs el),drawn:=n } fz NoE c cs.toList zf):RunsTo P a o w fz al s R M e:=by
 have hB:Blk { w with heap:=w.heap.push (.cells cs el),drawn:=n } w.heap.size cs:=⟨el,(0,0),by simp,fun o _ h=>by simp at h⟩
 refine ⟨_,_,_,hrun,.inl rfl,fz,_,_,effOK_new (l:=.mem w.heap.size 0) (f:=fun i=>if i=w.heap.size then 1 else 0) hr (grow_push w al _ n) hfr hmix hsub hk ?_ (fun b=>by split <;> omega) (fun b hb => ?_),?_,fun b hb=>.inl hb,fun K hK => ?_⟩
 · unfold OwO;rw [if_pos rfl]
   exact ⟨w.heap.size,cs,zf,rfl,hB,hc,fun i=>by simp [zf]⟩
 · by_cases h:b=w.heap.size
   · subst h;exact ⟨Nat.le_refl _,hal _ (Nat.le_refl _)⟩
   · rw [if_neg h] at hb;omega
 · intro x hx
   rw [hv] at hx;obtain rfl:=Option.some.inj hx
   rw [hmix]
   simp only [EvV,EvR,EvP]
   exact ⟨{ box:=true,c:=c },w.heap.size,0,by simp [upO],by simp [upR,walk_nil],rfl⟩
 · simp only [upR];rw [if_neg (by omega)]
end
end Go.VK
namespace Go.VK
open AVal
section
variable {P:Program} {Φ:Ctx} {w w':World} {fz al:Nat→Prop} {p s:St} {a:Act} {R:RM} {F:Nat→Foot}
theorem new_slice (hr:Rel w fz al s.env a.tmps s.obj R F) (hal : ∀b,w.heap.size≤b→al b) {o:Oper} {M:List Nat} {e:Eff} {d n sz cap:Nat} {xs:List AVal} {cs:Array Value} {el:Nat} {fr:Nat×Nat} (hfr:s.obj d=none) (hd:d<passBase) (hmix:Mix M s.obj e.objs=upO s.obj d (some { box:=false,c:=.own sz xs })) (hsub : ∀K o,lk e.objs K=some o→K∈M) (hk:e.ka=[]∧e.ki=[]∧e.kr=[]) (hv:e.v=some (.ref d []))
 (hrun:(execOp a.eval o).run P w=.ok (.value (.slice (some ⟨w.heap.size,0,none⟩) xs.length cap)) { w with heap:=w.heap.push (.cells cs el fr),drawn:=n }) (hunf:Unfr fr cs.size) (hcap:xs.length≤cap) (hsz:0<sz) (hle:cap*sz≤cs.size)
 (hc:OwX { w with heap:=w.heap.push (.cells cs el fr),drawn:=n } fz NoE xs sz cs.toList zf):RunsTo P a o w fz al s R M e:=by
 have hB:Blk { w with heap:=w.heap.push (.cells cs el fr),drawn:=n } w.heap.size cs:=⟨el,fr,by simp,hunf⟩
 refine ⟨_,_,_,hrun,.inl rfl,fz,_,_,effOK_new (l:=.val (.slice (some ⟨w.heap.size,0,none⟩) xs.length cap)) (f:=fun i=>if i=w.heap.size then 1 else 0) hr (grow_push w al _ n) hfr hmix hsub hk ?_ (fun b=>by split <;> omega) (fun b hb => ?_),?_,fun b hb=>.inl hb,fun K hK => ?_⟩
 · unfold OwO;rw [if_neg (by simp)]
   refine ⟨_,rfl,?_,rfl⟩
   simp only [OwC]
   exact ⟨some ⟨w.heap.size,0,none⟩,cap,rfl,hcap,.inr ⟨hsz,w.heap.size,0,cs,zf,rfl,hB,by omega,by simpa using hc,fun i=>by simp [zf]⟩⟩
 · by_cases h:b=w.heap.size
   · subst h;exact ⟨Nat.le_refl _,hal _ (Nat.le_refl _)⟩
   · rw [if_neg h] at hb;omega
 · intro x hx
   rw [hv] at hx;obtain rfl:=Option.some.inj hx
   rw [hmix]
   simp only [EvV,EvR,EvP]
   exact ⟨{ box:=false,c:=.own sz xs },.val _,by simp [upO],by simp [upR,walk_nil],rfl,rfl⟩
 · simp only [upR];rw [if_neg (by omega)]
end
end Go.VK
namespace Go.VK
open AVal
section
variable {P:Program} {Φ:Ctx} {w w':World} {fz al:Nat→Prop} {p s:St} {a:Act} {R:RM} {F:Nat→Foot}
theorem new_alloc (hT:TOK P Φ) (hr:Rel w fz al s.env a.tmps s.obj R F) (hal : ∀b,w.heap.size≤b→al b) {o:Oper} {M:List Nat} {e:Eff} {d t:Nat} {T:TI} (ho:o.op=.alloc t) (ht:Φ.ti t=some T) (hfr:s.obj d=none) (hd:d<passBase) (hmix:Mix M s.obj e.objs=upO s.obj d (some { box:=true,c:=T.zero })) (hsub : ∀K o,lk e.objs K=some o→K∈M) (hk:e.ka=[]∧e.ki=[]∧e.kr=[]) (hv:e.v=some (.ptr d [] none)):RunsTo P a o w fz al s R M e:=by
 obtain ⟨z,h1,h2,h3⟩:=(hT.tf ht).zero
 refine new_box (n:=w.drawn) (cs:=z.cells) (el:=t) hr hal hfr hd hmix hsub hk hv ?_ ?_
 · simp only [execOp,ho]
   refine run_v ?_
   simp only [Instr.alloc,Sem.run_bind,h1,Result.andThen_ok,newVar,newRow,run_newObj,Sem.run_pure]
 · unfold TI.zero
   cases ha:T.agg with
   | true=>simp only [OwC];exact zeros_own h2
   | false=>
     obtain ⟨c,hc⟩:=(hT.tf ht).one ha
     rw [hc] at h2 ⊢
     dsimp only
     cases hz:z.cells.toList with
     | nil=>rw [hz] at h2;simp [zsOK] at h2
     | cons v vs=>
       rw [hz] at h2
       cases vs with
       | nil=>simp only [zsOK,Bool.and_eq_true] at h2;exact zero_own h2.1
       | cons _ _=>simp [zsOK] at h2
end
end Go.VK
namespace Go.VK
open AVal
section
variable {P:Program} {Φ:Ctx} {w w':World} {fz al:Nat→Prop} {p s:St} {a:Act} {R:RM} {F:Nat→Foot}
theorem cell_own {E:Env2} {x:AVal} {v:Value} (h:cellOK x=true) (hv:EvV w fz s.obj R x v) (hg:Grow w w' al) (hlt : ∀b,fz b→b<w.heap.size):OwC w' fz E x [v] zf:=by
 cases x <;> simp [cellOK] at h <;> simp only [EvV] at hv <;> simp only [OwC]
 case bool b=>exact ⟨by rw [hv],fun _=>rfl⟩
 case int k n=>exact ⟨by rw [hv],fun _=>rfl⟩
 case str z=>exact ⟨by rw [hv],fun _=>rfl⟩
 case nilp=>exact ⟨by rw [hv],fun _=>rfl⟩
 case nils sz=>exact ⟨by rw [hv],fun _=>rfl⟩
 case unk=>exact ⟨⟨v,rfl,hv⟩,fun _=>rfl⟩
 case ro t sz xs=>exact ⟨ROC.mono (fun b hb=>hg.same b (hlt b hb)) (fun b hb=>hb) _ _ hv,fun _=>rfl⟩
theorem cells_own {E:Env2} (hg:Grow w w' al) (hlt : ∀b,fz b→b<w.heap.size) : ∀{xs:List AVal} {vs:List Value},xs.all cellOK=true→EvL w fz s.obj R xs vs→OwL w' fz E xs vs zf
 | [],vs,_,hv=>by simp only [EvL] at hv;subst hv;simp [OwL,zf]
 | x::xs,vs,h,hv=>by
   simp only [List.all_cons,Bool.and_eq_true] at h
   simp only [EvL] at hv
   obtain ⟨v,r,rfl,h1,h2⟩:=hv
   simp only [OwL]
   exact ⟨v,r,zf,zf,rfl,cell_own h.1 h1 hg hlt,cells_own hg hlt h.2 h2,fun _=>rfl⟩
theorem box_own {E:Env2} {x:AVal} {v:Value} (h:boxOK x=true) (hv:EvV w fz s.obj R x v) (hg:Grow w w' al) (hlt : ∀b,fz b→b<w.heap.size):OwC w' fz E x v.cells.toList zf∧v.cells.size=width x:=by
 cases x with
 | agg cs=>
   simp only [boxOK] at h
   simp only [EvV] at hv
   obtain ⟨vs,rfl,hl⟩:=hv
   refine ⟨?_,by simpa [Value.cells,width] using hl.length⟩
   simp only [OwC,Value.cells]
   exact cells_own hg hlt h hl
 | _=>
   have h':=h
   simp only [boxOK,cellOK] at h'
   first
    | (simp at h';done)
    | (have h1:=cell_own (E:=E) (w':=w') (al:=al) (by simp [cellOK]) hv hg hlt
       have h2:v.cells = #[v]:=by
        (simp only [EvV] at hv) <;> first
          | (subst hv;rfl)
          | (subst hv;rfl)
          | (obtain ⟨_,_,rfl,_⟩:=ro_val hv;rfl)
          | (cases v <;> first|rfl|simp [Value.oneCell'] at hv)
       rw [h2]
       exact ⟨h1,rfl⟩)
theorem deNil1_own {E:Env2} {x:AVal} {c:List Value} {f:Foot} (h:OwC w fz E x c f):OwC w fz E (deNil1 x) c f:=by
 cases x <;> try exact h
 case nils sz=>
  simp only [OwC] at h
  simp only [deNil1,OwC]
  exact ⟨none,0,h.1,Nat.le_refl _,.inl ⟨rfl,h.2⟩⟩
theorem deNils_own {E:Env2} : ∀{xs:List AVal} {c:List Value} {f:Foot},OwL w fz E xs c f→OwL w fz E (xs.map deNil1) c f
 | [],_,_,h=>h
 | x::xs,c,f,h=>by
   simp only [OwL] at h
   obtain ⟨v,r,f1,f2,h1,h2,h3,h4⟩:=h
   simp only [List.map_cons,OwL]
   exact ⟨v,r,f1,f2,h1,deNil1_own h2,deNils_own h3,h4⟩
theorem deNil_own {E:Env2} {x:AVal} {c:List Value} {f:Foot} (h:OwC w fz E x c f):OwC w fz E (deNil x) c f:=by
 cases x with
 | agg cs=>
   simp only [OwC] at h
   simp only [deNil,OwC]
   exact deNils_own h
 | _=>exact deNil1_own h
theorem new_boxed (hr:Rel w fz al s.env a.tmps s.obj R F) (hp:Sub p s) (hal : ∀b,w.heap.size≤b→al b) {o:Oper} {M:List Nat} {e:Eff} {d t:Nat} {x:Operand} {v:AVal} (ho:o.op=.box t x) (hx:p.ev Φ t x=some v) (hb:boxOK v=true) (hfr:s.obj d=none) (hd:d<passBase) (hmix:Mix M s.obj e.objs=upO s.obj d (some { box:=true,c:=deNil v })) (hsub : ∀K o,lk e.objs K=some o→K∈M) (hk:e.ka=[]∧e.ki=[]∧e.kr=[]) (hv:e.v=some (.ptr d [] none)):RunsTo P a o w fz al s R M e:=by
 have ex:=ev_ok hr hp hx
 refine new_box (n:=w.drawn) (cs:=(a.eval x).cells) (el:=t) hr hal hfr hd hmix hsub hk hv ?_ ?_
 · simp only [execOp,ho]
   refine run_v ?_
   simp only [Instr.box,Sem.run_bind,newVar,newRow,run_newObj,Result.andThen_ok,Sem.run_pure]
 · exact deNil_own (box_own hb ex (grow_push w al _ _) hr.lt).1
end
end Go.VK
namespace Go.VK
open AVal
section
variable {P:Program} {Φ:Ctx} {w w':World} {fz al:Nat→Prop} {p s:St} {a:Act} {R:RM} {F:Nat→Foot}
theorem zf_add:(fun b=>zf b+zf b)=zf:=rfl
theorem tzero_own {E:Env2} {t:Nat} {T:TI} (h:TF P t T) {z:Value} (hz:zsOK T.cts z.cells.toList=true):OwC w fz E T.zero z.cells.toList zf:=by
 unfold TI.zero
 cases ha:T.agg with
 | true=>simp only [OwC];exact zeros_own hz
 | false=>
   obtain ⟨c,hc⟩:=h.one ha
   rw [hc] at hz ⊢
   dsimp only
   cases hz2:z.cells.toList with
   | nil=>rw [hz2] at hz;simp [zsOK] at hz
   | cons v vs=>
     rw [hz2] at hz
     cases vs with
     | nil=>simp only [zsOK,Bool.and_eq_true] at hz;exact zero_own hz.1
     | cons _ _=>simp [zsOK] at hz
theorem made_step (z:Array Value) (_hz:0<z.size) (k:Nat):(madeCells z (z.size+k)).toList=z.toList++(madeCells z k).toList:=by
 apply List.ext_getElem?
 intro j
 rw [List.getElem?_append,Array.length_toList]
 simp only [madeCells,Array.toList_map,Array.toList_range,List.getElem?_map]
 by_cases h1:j<z.size
 · rw [if_pos h1,List.getElem?_range (by omega)]
   simp [h1,Nat.mod_eq_of_lt h1]
 · rw [if_neg h1]
   by_cases h2:j<z.size+k
   · rw [List.getElem?_range (by omega),List.getElem?_range (by omega)]
     simp only [Option.map_some,Option.some.injEq]
     rw [←Nat.mod_eq_sub_mod (by omega)]
   · rw [List.getElem?_eq_none (by simp;omega),List.getElem?_eq_none (by simp;omega)]
theorem made_own {E:Env2} {x:AVal} {z:Array Value} (hz:0<z.size) (hx:OwC w fz E x z.toList zf) (c:List Value) : ∀(n m:Nat),n≤m→OwX w fz E (List.replicate n x) z.size ((madeCells z (m*z.size)).toList++c) zf
 | 0,m,_=>by simp [OwX,zf]
 | n+1,m+1,h=>by
   have e:(m+1)*z.size=z.size+m*z.size:=by rw [Nat.add_mul];omega
   rw [e,made_step z hz,List.append_assoc,List.replicate_succ]
   simp only [OwX]
   exact ⟨z.toList,_,zf,zf,rfl,by simp,hx,made_own hz hx c n m (by omega),fun _=>rfl⟩
theorem new_made (hT:TOK P Φ) (hr:Rel w fz al s.env a.tmps s.obj R F) (hp:Sub p s) (hal : ∀b,w.heap.size≤b→al b) {o:Oper} {M:List Nat} {e:Eff} {d t el sz:Nat} {T U:TI} {x y:Operand} {n c:Int} (ho:o.op=.makeSlice t x y) (ht:Φ.ti t=some T) (hel:T.elem=some el) (hcts:T.cts=[.slice sz]) (hel2:Φ.ti el=some U)
 (hx:p.ev Φ 0 x=some (.int .i64 n)) (hy:p.ev Φ 0 y=some (.int .i64 c)) (hsz:0<sz) (hby:0<U.bytes) (h0:0≤n) (hnc:n≤c) (hcap:capB c.toNat U.bytes=true)
 (hfr:s.obj d=none) (hd:d<passBase) (hmix:Mix M s.obj e.objs=upO s.obj d (some { box:=false,c:=.own sz (List.replicate n.toNat U.zero) })) (hsub : ∀K o,lk e.objs K=some o→K∈M) (hk:e.ka=[]∧e.ki=[]∧e.kr=[]) (hv:e.v=some (.ref d [])):RunsTo P a o w fz al s R M e:=by
 have ex:=ev_ok hr hp hx
 have ey:=ev_ok hr hp hy
 simp only [EvV] at ex ey
 have ha:T.agg=false:=by
  obtain ⟨i,d',z,h1,h2,h3,h4,h5,h6,h7⟩:=(hT.tf ht).info
  cases hg:T.agg with
  | false=>rfl
  | true=>cases d' <;> simp [descOK,hg,hel] at h7
 obtain ⟨el',i,hu,hel',hi,his⟩:=(hT.tf ht).slice ha hcts
 rw [hel] at hel';obtain rfl:=Option.some.inj hel'
 obtain ⟨j,dd,z,g1,g2,g3,g4,g5,g6,g7⟩:=(hT.tf hel2).info
 rw [hi] at g1;obtain rfl:=Option.some.inj g1
 have hzs:z.cells.size=sz:=by
  have : ∀(cs:List CT) (vs:List Value),zsOK cs vs=true→vs.length=cs.length:=by
   intro cs
   induction cs with
   | nil=>intro vs h;cases vs <;> simp [zsOK] at h ⊢
   | cons c cs ih=>intro vs h;cases vs <;> simp [zsOK] at h ⊢;exact ih _ h.2
  have:=this _ _ g6
  rw [←his,g3,←this];simp
 simp only [capB,decide_eq_true_eq] at hcap
 have hcb:(i.bytes:Int)*c≤281474976710656:=by
  rw [g4]
  have h1:(c.toNat:Int)=c:=Int.toNat_of_nonneg (by omega)
  have h2:(U.bytes:Int)*c=((c.toNat*U.bytes:Nat):Int):=by rw [Int.natCast_mul,h1,Int.mul_comm]
  rw [h2]
  have h3:c.toNat*U.bytes≤281474976710656:=Nat.le_trans hcap (by decide)
  exact Int.ofNat_le.2 h3
 have hc63:c≤9223372036854775807:=by
  have h1:c.toNat≤c.toNat*U.bytes:=Nat.le_mul_of_pos_right _ hby
  omega
 have hrun:=run_make (P:=P) w t el i z hu hi g5 .i64 .i64 n c h0 hnc hcb hc63
 have hlen:(List.replicate n.toNat U.zero).length=n.toNat:=by simp
 refine new_slice (n:=w.drawn) (sz:=sz) (cap:=c.toNat) (xs:=List.replicate n.toNat U.zero) (cs:=madeCells z.cells (c.toNat*i.size)) (el:=el) (fr:=(0,0)) hr hal hfr hd hmix hsub hk hv ?_ (fun o _ h=>by simp at h) (by rw [hlen];omega) hsz (by rw [size_madeCells,his];exact Nat.le_refl _) ?_
 · simp only [execOp,ho,ex,ey]
   refine run_v ?_
   rw [hrun,hlen];rfl
 · have:=made_own (w:={ w with heap:=w.heap.push (.cells (madeCells z.cells (c.toNat*i.size)) el (0,0)),drawn:=w.drawn }) (fz:=fz) (E:=NoE) (x:=U.zero) (z:=z.cells) (by omega) (tzero_own (hT.tf hel2) g6) [] n.toNat c.toNat (by omega)
   rw [hzs,List.append_nil,←his] at this
   rw [←his];exact this
theorem bytes_world (w:World) (e:Nat) (z:ByteArray):Lib.bytesWorld w e z={ w with heap:=w.heap.push (.cells (Lib.bytesCells w e z) e ((Lib.bytesCells w e z).size,(Lib.bytesCells w e z).size+1)),drawn:=w.drawn+1 }:=by
 have hm : ∀(a:Array Obj) (x:Obj) (f:Obj→Obj),(a.push x).modify a.size f=a.push (f x):=by
  intro a x f
  apply Array.ext
  · simp
  · intro i h1 h2
    simp only [Array.getElem_modify,Array.getElem_push]
    by_cases h:a.size=i
    · subst h;simp
    · have hi:i<a.size:=by simp at h1;omega
      simp [h,hi]
 unfold Lib.bytesWorld World.freeze
 rw [if_neg (by decide)]
 show ({ w.drew.alloc (.cells (Lib.bytesCells w e z) e) with heap:=(w.heap.push (.cells (Lib.bytesCells w e z) e)).modify w.heap.size _ }:World)=_
 rw [hm]
 rfl
theorem bytes_own {E:Env2} (c:List Value) : ∀(l:List UInt8),OwX w fz E (l.map fun b=>AVal.int .u8 b.toNat) 1 ((l.map fun b=>Value.int .u8 b.toNat)++c) zf
 | []=>by simp [OwX,zf]
 | b::l=>by
   simp only [List.map_cons,OwX,List.cons_append]
   exact ⟨[.int .u8 b.toNat],_,zf,zf,rfl,rfl,by simp [OwC,zf],bytes_own c l,fun _=>rfl⟩
theorem new_bytes (hT:TOK P Φ) (hr:Rel w fz al s.env a.tmps s.obj R F) (hp:Sub p s) (hal : ∀b,w.heap.size≤b→al b) {o:Oper} {M:List Nat} {e:Eff} {d t u el:Nat} {T U E:TI} {x:Operand} {z:ByteArray} (ho:o.op=.convert t u x) (ht:Φ.ti t=some T) (hu:Φ.ti u=some U) (hua:U.agg=false) (huc:U.cts=[.slice 1]) (hel:U.elem=some el) (he:Φ.ti el=some E) (hea:E.agg=false) (hec:E.cts=[.int .u8])
 (hx:p.ev Φ t x=some (.str z)) (hfr:s.obj d=none) (hd:d<passBase) (hmix:Mix M s.obj e.objs=upO s.obj d (some { box:=false,c:=.own 1 (ofBytes z) })) (hsub : ∀K o,lk e.objs K=some o→K∈M) (hk:e.ka=[]∧e.ki=[]∧e.kr=[]) (hv:e.v=some (.ref d [])):RunsTo P a o w fz al s R M e:=by
 have ex:=ev_ok hr hp hx
 simp only [EvV] at ex
 obtain ⟨ud,hud⟩:=(hT.tf ht).und
 obtain ⟨el',i,hus,hel',hi,his⟩:=(hT.tf hu).slice hua huc
 rw [hel] at hel';obtain rfl:=Option.some.inj hel'
 have hei:=(hT.tf he).int hea hec
 have hrun:=Lib.run_convert_string_bytes (P:=P) w t u el z hud hus hei
 have hlen:(ofBytes z).length=z.size:=by simp [ofBytes]
 have hcl:grownCap w z.size 0 el≤(Lib.bytesCells w el z).size:=by simp [Lib.bytesCells];omega
 have hge:z.size≤grownCap w z.size 0 el:=grownCap_ge w _ _ _
 rw [bytes_world] at hrun
 refine new_slice (n:=w.drawn+1) (sz:=1) (cap:=grownCap w z.size 0 el) (xs:=ofBytes z) (cs:=Lib.bytesCells w el z) (el:=el) (fr:=((Lib.bytesCells w el z).size,(Lib.bytesCells w el z).size+1)) hr hal hfr hd hmix hsub hk hv ?_ (fun o ho h=>by simp at h;omega) (by rw [hlen];exact hge) (by omega) (by rw [Nat.mul_one];exact hcl) ?_
 · simp only [execOp,ho,ex]
   refine run_v ?_
   rw [hrun,hlen]
 · have:(Lib.bytesCells w el z).toList=(z.data.toList.map fun b=>Value.int .u8 b.toNat)++(Array.replicate (grownCap w z.size 0 el-z.size) (Value.int .u8 0)).toList:=by simp [Lib.bytesCells]
   rw [this]
   exact bytes_own _ _
end
end Go.VK
namespace Go.VK
open AVal
section
variable {P:Program} {Φ:Ctx} {w w':World} {fz al:Nat→Prop} {p s:St} {a:Act} {R:RM} {F:Nat→Foot}
theorem mid_init {o:Op} {M:List Nat} (h1 : ∀K∈M,K∈(s.part o).objs.map (·.1)∨s.obj K=none) (h2 : ∀K∈(s.part o).objs.map (·.1),K∈M):Mid M s.obj (s.part o)∧Amb M s.obj (s.part o)=s.obj:=by
 refine ⟨⟨fun K o ho=>⟨o,lk_part_objs ho,rfl,.refl _,.refl _ _ _⟩,fun K u hK hu _ => ?_,fun K o ho=>h2 K (lk_mem ho)⟩,?_⟩
 · rcases h1 K hK with h|h
   · exact ⟨u,by rw [part_objs_at h];exact hu⟩
   · rw [h] at hu;simp at hu
 · funext K
   simp only [Amb]
   split
   · rename_i hK
     rcases h1 K hK with h|h
     · rw [part_objs_at h];rfl
     · rw [h]
       cases hp:lk (s.part o).objs K with
       | none=>rfl
       | some u=>have:=lk_part_objs hp;rw [St.obj,this] at h;simp at h
   · rfl
theorem RelO.world {E:Env2} {O:OM} {G G':Foot} (h:RelO w fz al E O R F G) (hs : ∀b,((∃K o,O K=some o∧0<F K b)∨fz b)→w'.heap[b]? = w.heap[b]?) (hsz:w.heap.size≤w'.heap.size)
 (g1 : ∀b,G' b≤1) (gd : ∀K o,O K=some o → ∀b,F K b=0∨G' b=0) (go : ∀b,0<G' b→al b ∧ ¬fz b):RelO w' fz al E O R F G':=
 ⟨fun K o ho=>OwO.mono (fun b hb=>⟨hb,hs b (.inr hb)⟩) (fun b hb=>hs b (.inl ⟨K,o,ho,hb⟩)) (h.obj K o ho),h.one,h.dis,h.own,g1,gd,go,fun b hb=>Nat.lt_of_lt_of_le (h.lt b hb) hsz⟩
theorem RelO.put {E:Env2} {O:OM} {G:Foot} (h:RelO w fz al E O R F G) {d:Nat} {ob:VObj} {l:VK.Loc} {f:Foot} (hob:OwO w fz E ob l f) (hf : ∀b,f b≤G b):RelO w fz al E (upO O d (some ob)) (upR R d l) (upF F d f) zf:=by
 refine ⟨fun K o ho => ?_,fun K o ho b => ?_,fun K o J u hKJ ho hu b => ?_,fun K o ho b hb => ?_,fun _=>Nat.zero_le _,fun _ _ _ _=>.inr rfl,fun b hb=>by simp [zf] at hb,h.lt⟩
 · simp only [upO] at ho
   split at ho
   · rename_i hK;subst hK
     obtain rfl:=Option.some.inj ho
     simpa only [upR,upF,if_true] using hob
   · rename_i hK
     simp only [upR,upF,if_neg hK];exact h.obj K o ho
 · simp only [upO] at ho
   split at ho
   · rename_i hK;subst hK;simp only [upF,if_true];exact Nat.le_trans (hf b) (h.g1 b)
   · rename_i hK;simp only [upF,if_neg hK];exact h.one K o ho b
 · simp only [upO] at ho hu
   split at ho
   · rename_i hK;subst hK
     rw [if_neg (Ne.symm hKJ)] at hu
     simp only [upF,if_true,if_neg (Ne.symm hKJ)]
     have:=h.gd J u hu b;have:=hf b;omega
   · rename_i hK
     split at hu
     · rename_i hJ;subst hJ
       simp only [upF,if_true,if_neg hK]
       have:=h.gd K o ho b;have:=hf b;omega
     · rename_i hJ
       simp only [upF,if_neg hK,if_neg hJ]
       exact h.dis K o J u hKJ ho hu b
 · simp only [upO] at ho
   split at ho
   · rename_i hK;subst hK
     simp only [upF,if_true] at hb
     exact h.go b (Nat.lt_of_lt_of_le hb (hf b))
   · rename_i hK
     simp only [upF,if_neg hK] at hb
     exact h.own K o ho b hb
theorem stab_mid {s1:St} {M:List Nat} {O2:OM} {R2:RM} {F1:Nat→Foot} {G1:Foot} {E:Env2} {ki:List (Nat×List Nat)} {kr:List Nat} (hm:Mid M s.obj s1) (h1:RelO w fz al E (Amb M s.obj s1) R F1 G1) (_hlt : ∀b,fz b→b<w.heap.size) (hki : ∀y∈s1.ki,y∈ki)
 (hsame : ∀K o,Amb M s.obj s1 K=some o→K∉s1.ka→(K,[])∉ki→O2 K=some o∧R2 K=R K ∧ ∀b,(0<F1 K b∨fz b)→w'.heap[b]? = w.heap[b]?)
 (hin : ∀K o,Amb M s.obj s1 K=some o→K∉s1.ka→(K,[])∈ki → ∃o',O2 K=some o'∧R2 K=R K∧(K∉kr→hdOf w' (R K)=hdOf w (R K))):Stab w w' s.obj O2 R R2 s1.ka ki kr:=by
 refine ⟨fun K u hu hka => ?_⟩
 have hA : ∃o,Amb M s.obj s1 K=some o∧Kept s1.ki K u.c o.c:=by
  by_cases hK:K∈M
  · obtain ⟨o,ho⟩:=hm.there K u hK hu hka
    refine ⟨o,by simp [Amb,hK,ho],?_⟩
    obtain ⟨u',hu',_,_,h3⟩:=hm.old K o ho
    rw [hu] at hu';obtain rfl:=Option.some.inj hu'
    exact h3
  · exact ⟨u,by simp [Amb,hK,hu],.refl _ _ _⟩
 obtain ⟨o,ho,hc⟩:=hA
 by_cases hk:(K,[])∈ki
 · obtain ⟨o',h2,h3,h4⟩:=hin K o ho hka hk
   exact ⟨o',h2,h3,h4,fun p hn=>by have:=hn _ hk rfl;cases p <;> simp [hitP] at this⟩
 · obtain ⟨h2,h3,h4⟩:=hsame K o ho hka hk
   obtain ⟨c,f0,h5,h6,h7,h8,h9⟩:=(h1.obj K o ho).loc
   have hbl : ∀b,0<f0 b∨fz b→w'.heap[b]? = w.heap[b]? := fun b hb=>h4 b (hb.imp (fun h=>Nat.lt_of_lt_of_le h (h8 b)) id)
   have hloc : ∀b q,R K=.mem b q→w'.heap[b]? = w.heap[b]? := fun b q hbq=>h4 b (.inl (h9 b q hbq))
   refine ⟨o,h2,h3,fun _=>hdOf_same hloc,fun q hn l hw => ?_⟩
   obtain ⟨e1,e2⟩:=walk_same q _ o.c c f0 (R K) (.inl ⟨f0,fun _=>Nat.le_refl _,h5⟩) h6 h7 hbl hloc
   rw [←hc w (R K) q fun y hy he=>hn y (hki y hy) he] at hw
   exact ⟨by rw [e1];exact hw,e2 l hw⟩
theorem effOK_hand {s1:St} {M:List Nat} {e:Eff} {F1:Nat→Foot} {G1 f:Foot} {d:Nat} {ob:VObj} {l:VK.Loc} (hr:Rel w fz al s.env a.tmps s.obj R F) (hm:Mid M s.obj s1) (h1:RelO w fz al (EvR w s.obj R) (Amb M s.obj s1) R F1 G1)
 (hkeep:Keep w al w') (hs : ∀b,((∃K o,Amb M s.obj s1 K=some o∧0<F1 K b)∨fz b)→w'.heap[b]? = w.heap[b]?)
 (hdM:d∈M) (hfr:s.obj d=none) (hob:OwO w' fz (EvR w s.obj R) ob l f) (hf1 : ∀b,f b≤1) (hfd : ∀K o,Amb M s.obj s1 K=some o → ∀b,F1 K b=0∨f b=0) (hfo : ∀b,0<f b→al b ∧ ¬fz b)
 (heo:e.objs=((s1.drop d).setObj d ob).objs) (hek:e.ka=d::s1.ka∧e.ki=s1.ki∧e.kr=s1.kr) :
 EffOK w fz al s.obj R M e w' fz (upR R d l) (upF F1 d f):=by
 have hmix:Mix M s.obj e.objs=upO (Amb M s.obj s1) d (some ob):=by
  funext K
  simp only [Mix,Amb,upO,heo,St.setObj,St.drop,lk_ins,lk_del]
  by_cases hK:K=d
  · subst hK;simp [hdM]
  · simp [hK]
 have hw:=h1.world hs hkeep.size hf1 hfd hfo
 refine ⟨?_,fun K o ho => ?_,fun b hb=>⟨hb,hs b (.inr hb)⟩,?_,hkeep⟩
 · rw [hmix];exact hw.put hob (fun _=>Nat.le_refl _)
 · rw [heo] at ho
   simp only [St.setObj,St.drop,lk_ins,lk_del] at ho
   split at ho
   · rename_i hK;rw [hK];exact hdM
   · exact hm.seen K o ho
 · rw [hek.1,hek.2.1,hek.2.2,hmix]
   have hne : ∀K o,s.obj K=some o→K≠d:=by rintro K o ho rfl;rw [hfr] at ho;simp at ho
   have hA : ∀K o,Amb M s.obj s1 K=some o → ∃u,s.obj K=some u:=fun K o ho=>by
    simp only [Amb] at ho
    split at ho
    · obtain ⟨u,hu,_⟩:=hm.old K o ho;exact ⟨u,hu⟩
    · exact ⟨o,ho⟩
   have:=stab_mid (w':=w') (O2:=upO (Amb M s.obj s1) d (some ob)) (R2:=upR R d l) (ki:=s1.ki) (kr:=s1.kr) hm h1 hr.lt (fun K hK=>hK) (fun K o ho _ _=>by
    obtain ⟨u,hu⟩:=hA K o ho
    have hn:=hne K u hu
    exact ⟨by simp only [upO,if_neg hn];exact ho,by simp only [upR,if_neg hn],fun b hb=>hs b (hb.imp (fun h=>⟨K,o,ho,h⟩) id)⟩) (fun K o ho _ _=>by
    obtain ⟨u,hu⟩:=hA K o ho
    have hn:=hne K u hu
    refine ⟨o,by simp only [upO,if_neg hn];exact ho,by simp only [upR,if_neg hn],fun _=>hdOf_same fun b q hbq=>hs b (.inl ⟨K,o,ho,?_⟩)⟩
    obtain ⟨c,f0,h5,h6,h7,h8,h9⟩:=(h1.obj K o ho).loc
    exact h9 b q hbq)
   refine ⟨fun K u hu hka=>this.there K u hu (fun h=>hka (List.mem_cons_of_mem _ h))⟩
end
end Go.VK
namespace Go.VK
open AVal
section
variable {P:Program} {Φ:Ctx} {w w':World} {fz al:Nat→Prop} {p s:St} {a:Act} {R:RM} {F:Nat→Foot}
theorem cells_one {v:Value} (h:v.oneCell'=true):v.cells = #[v]:=by cases v <;> first|rfl|simp [Value.oneCell'] at h
theorem cells_len {x:AVal} (h:aggQ x=false):x.cells.length=1:=by cases x <;> first|rfl|simp [aggQ] at h
theorem HandV.own {E:Env2} {v:AVal} {val:Value} {g:Foot} (h:HandV w fz E v val g):OwC w fz E v val.cells.toList g∧val.cells.size=v.cells.length:=by
 cases v with
 | agg cs=>
   obtain ⟨vs,rfl,hl⟩:=h
   exact ⟨by simp only [OwC];exact hl,by simpa [AVal.cells,Value.cells] using hl.length⟩
 | _=>
   have h':OwC w fz E _ [val] g:=h
   have h1:=cells_one (OwC.ones _ _ _ h' val (by simp))
   rw [h1]
   exact ⟨h',rfl⟩
mutual
theorem pure_E {E E':Env2} : ∀(x:AVal) (c:List Value) (f:Foot),pureV x=true→OwC w fz E x c f→OwC w fz E' x c f
 | .agg cs,c,f,hp,h=>by simp only [pureV] at hp;simp only [OwC] at h ⊢;exact pures_E cs c f hp h
 | .bool _,c,f,_,h=>by simpa only [OwC] using h
 | .int _ _,c,f,_,h=>by simpa only [OwC] using h
 | .str _,c,f,_,h=>by simpa only [OwC] using h
 | .nilp,c,f,_,h=>by simpa only [OwC] using h
 | .unk,c,f,_,h=>by simpa only [OwC] using h
 | .nils _,c,f,_,h=>by simpa only [OwC] using h
 | .ro _ _ _,c,f,_,h=>by simpa only [OwC] using h
 | .own _ _,c,f,_,h=>by simpa only [OwC] using h
 | .und,c,f,_,h=>by simpa only [OwC] using h
 | .ptr _ _ _,c,f,hp,_=>by simp [pureV] at hp
 | .rop _ _,c,f,hp,_=>by simp [pureV] at hp
 | .ref _ _,c,f,hp,_=>by simp [pureV] at hp
 | .tup _,c,f,hp,_=>by simp [pureV] at hp
 | .clo _ _,c,f,hp,_=>by simp [pureV] at hp
theorem pures_E {E E':Env2} : ∀(xs:List AVal) (c:List Value) (f:Foot),pureVs xs=true→OwL w fz E xs c f→OwL w fz E' xs c f
 | [],c,f,_,h=>by simpa only [OwL] using h
 | x::xs,c,f,hp,h=>by
   simp only [pureVs,Bool.and_eq_true] at hp
   simp only [OwL] at h ⊢
   obtain ⟨v,r,f1,f2,h0,h1,h2,h3⟩:=h
   exact ⟨v,r,f1,f2,h0,pure_E x _ f1 hp.1 h1,pures_E xs r f2 hp.2 h2,h3⟩
end
theorem row_own {E:Env2} {sz:Nat} (c:List Value) : ∀(vs:List AVal) (vals:List Value) (g:Foot),HandL w fz E vs vals g→(vs.all fun v=>Nat.beq v.cells.length sz)=true→pureVs vs=true →
 OwX w fz NoE vs sz (vals.flatMap (fun v=>v.cells.toList)++c) g∧vals.length=vs.length ∧ ∀v∈vals,v.cells.size=sz
 | [],vals,g,h,_,_=>by
   simp only [HandL] at h
   obtain ⟨rfl,h⟩:=h
   exact ⟨by simp only [OwX];exact h,rfl,by simp⟩
 | x::xs,vals,g,h,hs,hp=>by
   simp only [HandL] at h
   obtain ⟨val,r,g1,g2,rfl,h1,h2,h3⟩:=h
   simp only [List.all_cons,Bool.and_eq_true] at hs
   simp only [pureVs,Bool.and_eq_true] at hp
   obtain ⟨h4,h5,h6⟩:=row_own c xs r g2 h2 hs.2 hp.2
   obtain ⟨h7,h8⟩:=h1.own
   have h9:val.cells.size=sz:=by rw [h8];exact Nat.eq_of_beq_eq_true hs.1
   refine ⟨?_,by simp [h5],fun v hv => ?_⟩
   · simp only [OwX,List.flatMap_cons,List.append_assoc]
     exact ⟨_,_,g1,g2,rfl,by simpa using h9,pure_E x _ g1 hp.1 h7,h4,h3⟩
   · rcases List.mem_cons.1 hv with rfl|hv
     · exact h9
     · exact h6 v hv
theorem cellOK_pure {x:AVal} (h:cellOK x=true):pureV x=true:=by cases x <;> simp [cellOK] at h <;> rfl
theorem cellOKs_pure : ∀{xs:List AVal},xs.all cellOK=true→pureVs xs=true
 | [],_=>rfl
 | x::xs,h=>by
   simp only [List.all_cons,Bool.and_eq_true] at h
   simp only [pureVs,cellOK_pure h.1,cellOKs_pure h.2,Bool.and_self]
theorem boxOK_pure {x:AVal} (h:boxOK x=true):pureV x=true:=by
 cases x with
 | agg cs=>simp only [boxOK] at h;simp only [pureV];exact cellOKs_pure h
 | _=>exact cellOK_pure h
theorem boxOKs_pure : ∀{xs:List AVal},xs.all boxOK=true→pureVs xs=true
 | [],_=>rfl
 | x::xs,h=>by
   simp only [List.all_cons,Bool.and_eq_true] at h
   simp only [pureVs,boxOK_pure h.1,boxOKs_pure h.2,Bool.and_self]
theorem Grow.refl (w:World) (al:Nat→Prop):Grow w w al:=⟨Keep.refl w al,fun _ _=>rfl⟩
theorem box_hand {E:Env2} {x:AVal} {v:Value} (h:boxOK x=true) (hv:EvV w fz s.obj R x v) (hlt : ∀b,fz b→b<w.heap.size):HandV w fz E x v zf:=by
 have hb:=(box_own (al:=fun _=>False) (E:=E) h hv (Grow.refl w _) hlt).1
 cases x with
 | agg cs=>
   simp only [EvV] at hv
   obtain ⟨vs,rfl,hl⟩:=hv
   exact ⟨vs,rfl,by simpa only [OwC,Value.cells] using hb⟩
 | _=>
   have h':=h
   simp only [boxOK] at h'
   exact cell_own (al:=fun _=>False) (w':=w) h' hv (Grow.refl w _) hlt
theorem box_hands {E:Env2} (hlt : ∀b,fz b→b<w.heap.size) : ∀{xs:List AVal} {vs:List Value},xs.all boxOK=true→EvL w fz s.obj R xs vs→HandL w fz E xs vs zf
 | [],vs,_,hv=>by simp only [EvL] at hv;subst hv;exact ⟨rfl,fun _=>rfl⟩
 | x::xs,vs,h,hv=>by
   simp only [List.all_cons,Bool.and_eq_true] at h
   simp only [EvL] at hv
   obtain ⟨v,r,rfl,h1,h2⟩:=hv
   exact ⟨v,r,zf,zf,rfl,box_hand h.1 h1 hlt,box_hands hlt h.2 h2,fun _=>rfl⟩
theorem evList_ok (hr:Rel w fz al s.env a.tmps s.obj R F) (hp:Sub p s) {t:Nat} : ∀{parts:List (Nat×Operand)} {i:Nat} {vs:List AVal},evList Φ p t parts i=some vs →
 ∃vals,parts.map (fun x=>(x.1,a.eval x.2))=(vals.zipIdx i).map (fun x=>(x.2,x.1))∧EvL w fz s.obj R vs vals
 | [],i,vs,h=>by simp only [evList,Option.some.injEq] at h;subst h;exact ⟨[],rfl,by simp [EvL]⟩
 | (j,x)::r,i,vs,h=>by
   simp only [evList] at h
   cases hb:Nat.beq j i with
   | false=>rw [hb] at h;simp at h
   | true=>
     rw [hb] at h
     simp only [cond_true] at h
     cases h1:p.ev Φ t x with
     | none=>rw [h1] at h;simp at h
     | some v=>
       cases h2:evList Φ p t r (i+1) with
       | none=>rw [h1,h2] at h;simp at h
       | some us=>
         rw [h1,h2] at h
         simp only [Option.some.injEq] at h;subst h
         obtain ⟨vals,h3,h4⟩:=evList_ok hr hp h2
         refine ⟨a.eval x::vals,?_,by simp only [EvL];exact ⟨_,_,rfl,ev_ok hr hp h1,h4⟩⟩
         simp only [List.map_cons,List.zipIdx_cons,h3,Nat.eq_of_beq_eq_true hb]
theorem run_row {t e:Nat} {ie:TypeInfo} {z:Value} (hu:P.underlying t=some (.slice e)) (hie:P.info? e=some ie) (hz:ie.zero=some z) {len:Nat} {parts:Array (Nat×Value)} {vals:List Value} (hparts:parts.toList=(vals.zipIdx 0).map fun x=>(x.2,x.1)) (hlen:vals.length=len) (hpos:0<ie.size) (hsmall:len*ie.size≤16777216) (hs : ∀v∈vals,v.cells.size=ie.size) :
 (Instr.buildSlice t len parts).run P w=.ok (.slice (some ⟨w.heap.size,0,none⟩) len len) (w.alloc (.cells (vals.flatMap fun v=>v.cells.toList).toArray e)):=by
 by_cases h0:len=0
 · subst h0
   have:vals=[]:=List.length_eq_zero_iff.1 hlen
   subst this
   have hp0:parts = #[]:=Array.toList_eq_nil_iff.1 (by simpa using hparts)
   subst hp0
   simp [Instr.buildSlice,run_underlying hu,sizeOf,typeInfo,hie,newRow,Instr.fill,Array.range_zero']
 · refine run_buildSlice w t e len parts _ ie z hu hie hz (by simp only [Nat.reducePow];omega) (Nat.ne_of_gt (Nat.mul_pos (Nat.pos_of_ne_zero h0) hpos)) ?_
   rw [hparts]
   exact Great.fill_whole hpos vals _ hs (by simp [hlen])
theorem made_slice {s1:St} {F1:Nat→Foot} {g:Foot} {o:Oper} {M:List Nat} {e:Eff} {d n sz cap:Nat} {xs:List AVal} {cs:Array Value} {el:Nat} {fr:Nat×Nat} (hr:Rel w fz al s.env a.tmps s.obj R F) (hal : ∀b,w.heap.size≤b→al b) (hm:Mid M s.obj s1) (h1:RelO w fz al (EvR w s.obj R) (Amb M s.obj s1) R F1 g)
 (hdM:d∈M) (hfr:s.obj d=none) (hd:d<passBase) (heo:e.objs=((s1.drop d).setObj d { box:=false,c:=.own sz xs }).objs) (hek:e.ka=d::s1.ka∧e.ki=s1.ki∧e.kr=s1.kr) (hv:e.v=some (.ref d []))
 (hrun:(execOp a.eval o).run P w=.ok (.value (.slice (some ⟨w.heap.size,0,none⟩) xs.length cap)) { w with heap:=w.heap.push (.cells cs el fr),drawn:=n }) (hunf:Unfr fr cs.size) (hcap:xs.length≤cap) (hsz:0<sz) (hle:cap*sz≤cs.size)
 (hX:OwX w fz NoE xs sz cs.toList g):RunsTo P a o w fz al s R M e:=by
 let w2:World:={ w with heap:=w.heap.push (.cells cs el fr),drawn:=n }
 have hg:Grow w w2 al:=grow_push w al _ n
 have hB:Blk w2 w.heap.size cs:=⟨el,fr,by simp [w2],hunf⟩
 have hgl : ∀b,0<g b→b<w.heap.size:=OwX.lt _ _ _ _ _ hX
 have hFl : ∀K o,Amb M s.obj s1 K=some o → ∀b,0<F1 K b→b<w.heap.size:=fun K o ho b hb=>(h1.obj K o ho).lt hb
 have hX2:OwX w2 fz NoE xs sz cs.toList g:=OwX.mono (fun b hb=>⟨hb,hg.same b (hr.lt b hb)⟩) _ _ _ (fun _ _ _ h=>h) _ _ _ (fun b hb=>hg.same b (hgl b hb)) hX
 have hmix:Mix M s.obj e.objs d=some { box:=false,c:=.own sz xs }:=by
  simp [Mix,hdM,heo,St.setObj,lk_ins]
 refine ⟨_,_,w2,hrun,.inl rfl,fz,_,_,effOK_hand (l:=.val (.slice (some ⟨w.heap.size,0,none⟩) xs.length cap)) (f:=fun i=>g i+if i=w.heap.size then 1 else 0) hr hm h1 hg.keep (fun b hb => ?_) hdM hfr ?_ (fun b => ?_) (fun K o ho b => ?_) (fun b hb => ?_) heo hek,?_,fun b hb=>.inl hb,fun K hK => ?_⟩
 · rcases hb with ⟨K,o,ho,hb⟩|hb
   · exact hg.same b (hFl K o ho b hb)
   · exact hg.same b (hr.lt b hb)
 · unfold OwO;rw [if_neg (by simp)]
   refine ⟨_,rfl,?_,rfl⟩
   simp only [OwC]
   exact ⟨some ⟨w.heap.size,0,none⟩,cap,rfl,hcap,.inr ⟨hsz,w.heap.size,0,cs,g,rfl,hB,by omega,by simpa using hX2,fun _=>rfl⟩⟩
 · have:=h1.g1 b
   by_cases h:b=w.heap.size
   · have:=hgl b;rw [if_pos h];omega
   · rw [if_neg h];omega
 · by_cases h:b=w.heap.size
   · left;have:=hFl K o ho b;omega
   · rw [if_neg h];have:=h1.gd K o ho b;omega
 · by_cases h:b=w.heap.size
   · exact ⟨hal b (by omega),fun hf=>by have:=hr.lt b hf;omega⟩
   · rw [if_neg h] at hb;exact h1.go b (by omega)
 · intro x hx
   rw [hv] at hx;obtain rfl:=Option.some.inj hx
   simp only [EvV,EvR,EvP]
   exact ⟨_,.val _,hmix,by simp [upR,walk_nil],rfl,rfl⟩
 · simp only [upR];rw [if_neg (by omega)]
theorem made_box {s1:St} {F1:Nat→Foot} {g:Foot} {o:Oper} {M:List Nat} {e:Eff} {d n:Nat} {c:AVal} {cs:Array Value} {el:Nat} (hr:Rel w fz al s.env a.tmps s.obj R F) (hal : ∀b,w.heap.size≤b→al b) (hm:Mid M s.obj s1) (h1:RelO w fz al (EvR w s.obj R) (Amb M s.obj s1) R F1 g)
 (hdM:d∈M) (hfr:s.obj d=none) (hd:d<passBase) (heo:e.objs=((s1.drop d).setObj d { box:=true,c:=c }).objs) (hek:e.ka=d::s1.ka∧e.ki=s1.ki∧e.kr=s1.kr) (hv:e.v=some (.ptr d [] none))
 (hrun:(execOp a.eval o).run P w=.ok (.value (.pointer (some ⟨w.heap.size,0,none⟩))) { w with heap:=w.heap.push (.cells cs el),drawn:=n })
 (hX:OwC w fz (EvR w s.obj R) c cs.toList g):RunsTo P a o w fz al s R M e:=by
 let w2:World:={ w with heap:=w.heap.push (.cells cs el),drawn:=n }
 have hg:Grow w w2 al:=grow_push w al _ n
 have hB:Blk w2 w.heap.size cs:=⟨el,(0,0),by simp [w2],fun o _ h=>by simp at h⟩
 have hgl : ∀b,0<g b→b<w.heap.size:=OwC.lt _ _ _ _ hX
 have hFl : ∀K o,Amb M s.obj s1 K=some o → ∀b,0<F1 K b→b<w.heap.size:=fun K o ho b hb=>(h1.obj K o ho).lt hb
 have hX2:OwC w2 fz (EvR w s.obj R) c cs.toList g:=OwC.mono (fun b hb=>⟨hb,hg.same b (hr.lt b hb)⟩) _ _ _ (fun _ _ _ h=>h) _ _ (fun b hb=>hg.same b (hgl b hb)) hX
 have hmix:Mix M s.obj e.objs d=some { box:=true,c:=c }:=by
  simp [Mix,hdM,heo,St.setObj,lk_ins]
 refine ⟨_,_,w2,hrun,.inl rfl,fz,_,_,effOK_hand (l:=.mem w.heap.size 0) (f:=fun i=>g i+if i=w.heap.size then 1 else 0) hr hm h1 hg.keep (fun b hb => ?_) hdM hfr ?_ (fun b => ?_) (fun K o ho b => ?_) (fun b hb => ?_) heo hek,?_,fun b hb=>.inl hb,fun K hK => ?_⟩
 · rcases hb with ⟨K,o,ho,hb⟩|hb
   · exact hg.same b (hFl K o ho b hb)
   · exact hg.same b (hr.lt b hb)
 · unfold OwO;rw [if_pos rfl]
   exact ⟨w.heap.size,cs,g,rfl,hB,hX2,fun _=>rfl⟩
 · have:=h1.g1 b
   by_cases h:b=w.heap.size
   · have:=hgl b;rw [if_pos h];omega
   · rw [if_neg h];omega
 · by_cases h:b=w.heap.size
   · left;have:=hFl K o ho b;omega
   · rw [if_neg h];have:=h1.gd K o ho b;omega
 · by_cases h:b=w.heap.size
   · exact ⟨hal b (by omega),fun hf=>by have:=hr.lt b hf;omega⟩
   · rw [if_neg h] at hb;exact h1.go b (by omega)
 · intro x hx
   rw [hv] at hx;obtain rfl:=Option.some.inj hx
   simp only [EvV,EvR,EvP]
   exact ⟨_,w.heap.size,0,hmix,by simp [upR,walk_nil],rfl⟩
 · simp only [upR];rw [if_neg (by omega)]
end
end Go.VK
namespace Go.VK
open AVal
section
variable {P:Program} {Φ:Ctx} {w w':World} {fz al:Nat→Prop} {p s:St} {a:Act} {R:RM} {F:Nat→Foot}
mutual
theorem ROC.own {E:Env2} : ∀(x:AVal) (c:List Value),ROC w fz x c→OwC w fz E x c zf
 | .bool _,c,h=>by simp only [ROC] at h;simp only [OwC];exact ⟨h,fun _=>rfl⟩
 | .int _ _,c,h=>by simp only [ROC] at h;simp only [OwC];exact ⟨h,fun _=>rfl⟩
 | .str _,c,h=>by simp only [ROC] at h;simp only [OwC];exact ⟨h,fun _=>rfl⟩
 | .nilp,c,h=>by simp only [ROC] at h;simp only [OwC];exact ⟨h,fun _=>rfl⟩
 | .unk,c,h=>by simp only [ROC] at h;simp only [OwC];exact ⟨h,fun _=>rfl⟩
 | .nils _,c,h=>by simp only [ROC] at h;simp only [OwC];exact ⟨h,fun _=>rfl⟩
 | .ro _ _ _,c,h=>by simp only [OwC];exact ⟨h,fun _=>rfl⟩
 | .agg cs,c,h=>by simp only [ROC] at h;simp only [OwC];exact ROL.own cs c h
 | .und,c,h=>by simp only [ROC] at h;simp only [OwC];exact ⟨h,fun _=>rfl⟩
 | .own _ _,c,h=>by simp [ROC] at h
 | .ptr _ _ _,c,h=>by simp [ROC] at h
 | .rop _ _,c,h=>by simp [ROC] at h
 | .ref _ _,c,h=>by simp [ROC] at h
 | .tup _,c,h=>by simp [ROC] at h
 | .clo _ _,c,h=>by simp [ROC] at h
theorem ROL.own {E:Env2} : ∀(xs:List AVal) (c:List Value),ROL w fz xs c→OwL w fz E xs c zf
 | [],c,h=>by simp only [ROL] at h;simp only [OwL];exact ⟨h,fun _=>rfl⟩
 | x::xs,c,h=>by
   simp only [ROL] at h
   obtain ⟨v,r,hc,h1,h2⟩:=h
   simp only [OwL]
   exact ⟨v,r,zf,zf,hc,ROC.own x _ h1,ROL.own xs r h2,fun _=>rfl⟩
end
theorem ROX.own {E:Env2} : ∀(xs:List AVal) (sz:Nat) (c:List Value),ROX w fz xs sz c→OwX w fz E xs sz c zf
 | [],sz,c,h=>by simp [OwX,zf]
 | x::xs,sz,c,h=>by
   simp only [ROX] at h
   obtain ⟨c1,c2,hc,hl,h1,h2⟩:=h
   simp only [OwX]
   exact ⟨c1,c2,zf,zf,hc,hl,ROC.own x _ h1,ROX.own xs sz c2 h2,fun _=>rfl⟩
theorem OwX.pre {E:Env2} {sz:Nat} : ∀(xs:List AVal) (c:List Value) (f:Foot),OwX w fz E xs sz c f→xs.length*sz≤c.length∧(∀u∈c.take (xs.length*sz),u.oneCell'=true) ∧ ∀c',OwX w fz E xs sz (c.take (xs.length*sz)++c') f
 | [],c,f,h=>⟨by simp,by simp,fun c'=>by simp only [OwX] at h ⊢;exact h⟩
 | x::xs,c,f,h=>by
   simp only [OwX] at h
   obtain ⟨c1,c2,f1,f2,rfl,hl,h1,h2,h3⟩:=h
   obtain ⟨g1,g2,g3⟩:=OwX.pre xs c2 f2 h2
   have e:(x::xs).length*sz=sz+xs.length*sz:=by simp [Nat.add_mul];omega
   have ht:(c1++c2).take ((x::xs).length*sz)=c1++c2.take (xs.length*sz):=by
    rw [e,←hl,List.take_length_add_append]
   rw [ht]
   refine ⟨by rw [e,List.length_append];omega,fun u hu => ?_,fun c' => ?_⟩
   · rcases List.mem_append.1 hu with hu|hu
     · exact OwC.ones x c1 f1 h1 u hu
     · exact g2 u hu
   · simp only [OwX]
     exact ⟨c1,_,f1,f2,List.append_assoc ..,hl,h1,g3 c',h3⟩
theorem OwX.app {E:Env2} {sz:Nat} {ys:List AVal} {c2:List Value} {g:Foot} (hy:OwX w fz E ys sz c2 g) : ∀(xs:List AVal) (c1:List Value) (f:Foot),OwX w fz E xs sz c1 f→c1.length=xs.length*sz→OwX w fz E (xs++ys) sz (c1++c2) (fun b=>f b+g b)
 | [],c1,f,h,hl=>by
   have:c1=[]:=List.length_eq_zero_iff.1 (by simpa using hl)
   subst this
   simp only [OwX] at h
   have e:(fun b=>f b+g b)=g:=by funext b;rw [h b];omega
   rw [e];simpa using hy
 | x::xs,c1,f,h,hl=>by
   simp only [OwX] at h
   obtain ⟨d1,d2,f1,f2,rfl,h0,h1,h2,h3⟩:=h
   have hl2:d2.length=xs.length*sz:=by
    have e:(x::xs).length*sz=sz+xs.length*sz:=by simp [Nat.add_mul];omega
    rw [e,List.length_append] at hl;omega
   simp only [List.cons_append,OwX]
   exact ⟨d1,d2++c2,f1,_,List.append_assoc ..,h0,h1,OwX.app hy xs d2 f2 h2 hl2,fun b=>by rw [h3];omega⟩
theorem setManyV_eq : ∀(vs cs:List Value) (o:Nat),o+vs.length≤cs.length→setManyV cs o vs=cs.take o++(vs++cs.drop (o+vs.length))
 | [],cs,o,_=>by simp [setManyV]
 | v::vs,cs,o,h=>by
   simp only [List.length_cons] at h
   simp only [setManyV]
   rw [setManyV_eq vs _ (o+1) (by simp;omega)]
   have h1:(cs.set o v).take (o+1)=cs.take o++[v]:=by
    rw [List.take_set,List.take_add_one,List.getElem?_eq_getElem (by omega)]
    simp only [Option.toList_some]
    rw [List.set_append_right _ _ (by simp;omega)]
    have:o-(cs.take o).length=0:=by simp;omega
    rw [this];rfl
   have h2:(cs.set o v).drop (o+1+vs.length)=cs.drop (o+(v::vs).length):=by
    rw [List.drop_set_of_lt (by omega)]
    congr 1;simp only [List.length_cons];omega
   rw [h1,h2]
   simp
theorem set_cells {b e:Nat} {fr:Nat×Nat} : ∀(vs:List Value) (o:Nat) (w:World) (cs:Array Value),w.heap[b]? = some (.cells cs e fr) →
 (w.setCells b o vs).heap[b]? = some (.cells (setManyV cs.toList o vs).toArray e fr)∧(∀i,i≠b→(w.setCells b o vs).heap[i]? = w.heap[i]?)∧(w.setCells b o vs).heap.size=w.heap.size ∧
   (w.setCells b o vs).os=w.os∧(w.setCells b o vs).tape=w.tape∧(w.setCells b o vs).output=w.output
 | [],o,w,cs,h=>⟨by simpa [World.setCells,setManyV] using h,fun _ _=>rfl,rfl,rfl,rfl,rfl⟩
 | v::vs,o,w,cs,h=>by
   simp only [World.setCells,setManyV]
   have h1:(w.setCell ⟨b,o,none⟩ v).heap[b]? = some (.cells (cs.setIfInBounds o v) e fr):=by
    simp [World.setCell,Array.getElem?_modify,h]
   obtain ⟨g1,g2,g3,g4,g5,g6⟩:=set_cells vs (o+1) (w.setCell ⟨b,o,none⟩ v) (cs.setIfInBounds o v) h1
   refine ⟨by rw [g1];simp,fun i hi => ?_,by rw [g3];simp [World.setCell],g4,g5,g6⟩
   rw [g2 i hi]
   simp [World.setCell,Array.getElem?_modify,Ne.symm hi]
end
end Go.VK
namespace Go.VK
open AVal
section
variable {P:Program} {Φ:Ctx} {w w':World} {fz al:Nat→Prop} {p s:St} {a:Act} {O0:OM} {R:RM} {M:List Nat}
theorem ro_cells {g off:Nat} {cs:Array Value} {news:List Value} (hB:RBlk w g cs) (hn : ∀(j:Nat) (u:Value),news[j]? = some u→(cs.toList.drop off)[j]? = some u) : ∀(j:Nat) (u:Value),news[j]? = some u→w.cell? ((⟨g,off,none⟩:Addr).add j)=some u:=by
 intro j u hu
 have:=hn j u hu
 rw [List.getElem?_drop] at this
 rw [add_at,hB.cell]
 simpa using this
theorem front {g off n sz:Nat} {cs:Array Value} {ys:List AVal} {f:Foot} (hB:RBlk w g cs) (hn:n=ys.length) (hX:OwX w fz NoE ys sz (cs.toList.drop off) f) :
 ∃news:List Value,news=(cs.toList.drop off).take (n*sz)∧news.length=n*sz∧(∀u∈news,u.oneCell'=true)∧(∀j u,news[j]? = some u→w.cell? ((⟨g,off,none⟩:Addr).add j)=some u) ∧ ∀c',OwX w fz NoE ys sz (news++c') f:=by
 subst hn
 obtain ⟨h1,h2,h3⟩:=OwX.pre ys _ f hX
 refine ⟨_,rfl,by rw [List.length_take];omega,h2,ro_cells hB fun j u hu => ?_,h3⟩
 rw [List.getElem?_take] at hu
 split at hu
 · exact hu
 · simp at hu
theorem ro_front {t:Bool} {sz:Nat} {ys:List AVal} {v:Value} (h:ROC w fz (.ro t sz ys) [v]) : ∃b cap,v=.slice b ys.length cap∧ys.length≤cap∧(t=true→cap=ys.length) ∧
 ∃news:List Value,news.length=ys.length*sz∧(∀u∈news,u.oneCell'=true)∧(∀c',OwX w fz NoE ys sz (news++c') zf)∧(ys=[]∨0<sz ∧ ∃g off cs,b=some ⟨g,off,none⟩∧RBlk w g cs ∧ ∀j u,news[j]? = some u→w.cell? ((⟨g,off,none⟩:Addr).add j)=some u):=by
 obtain ⟨b,cap,hv,h1,h2,h3⟩:=ro_val h
 refine ⟨b,cap,hv,h1,h2,?_⟩
 by_cases hy:ys=[]
 · subst hy
   exact ⟨[],by simp,by simp,fun c'=>by simp [OwX,zf],.inl rfl⟩
 · obtain ⟨hz,g,off,cs,rfl,hfz,hB,hX⟩:=h3 hy
   obtain ⟨news,_,e1,e2,e3,e4⟩:=front hB rfl (ROX.own ys sz _ hX)
   exact ⟨news,e1,e2,e4,.inr ⟨hz,g,off,cs,rfl,hB,e3⟩⟩
theorem plain_zero {E:Env2} {sz:Nat} : ∀(xs:List AVal) (c:List Value) (f:Foot),plainL xs=true→OwX w fz E xs sz c f → ∀b,f b=0
 | [],c,f,_,h=>by simpa only [OwX] using h
 | x::xs,c,f,hp,h=>by
   simp only [OwX] at h
   obtain ⟨c1,c2,f1,f2,_,_,h3,h4,h5⟩:=h
   have hp2:plainL xs=true:=by
    simp only [plainL,List.all_cons,Bool.and_eq_true] at hp
    exact hp.2
   intro b
   have h6:=plain_zero xs c2 f2 hp2 h4 b
   have h7:f1 b=0:=by
    simp only [plainL,List.all_cons,Bool.and_eq_true] at hp
    cases x <;> simp at hp <;> simp only [OwC] at h3 <;> exact h3.2 b
   rw [h5];omega
theorem okg_okp : ∀(x:AVal) (p:List Nat),x.okp p=true→x.okg p=true
 | x,[],h=>by cases x <;> rfl
 | x,i::p,h=>by
   cases x <;> simp only [AVal.okp,AVal.okg,Bool.and_eq_true,Bool.false_eq_true] at h ⊢
   all_goals exact ⟨h.1,okg_okp _ p h.2⟩
theorem more_ok {sz tx:Nat} {y:AVal} {vy:Value} {ys:List AVal} {s s1:St} {F:Nat→Foot} {G:Foot} (h:s.more y sz=some (true,ys,s1)) (hk : ∀K∈y.keys,K∈M) (hv:EvV w fz O0 R y vy) (hm:Mid M O0 s) (hr:RelO w fz al (EvR w O0 R) (Amb M O0 s) R F G)
 (_htx:(∃e',P.underlying tx=some (.slice e'))∨P.underlying tx=some .string) (hstr : ∀z,y=.str z→P.underlying tx=some .string) (hsl:(∀z,y≠.str z) → ∃e',P.underlying tx=some (.slice e')) :
 TakeOK w fz al O0 R M s s1 F G (fun g => ∃(news:List Value) (g':Foot),(∀b,g' b≤g b)∧(∀c',OwX w fz NoE ys sz (news++c') g')∧Src P sz tx vy ys.length news w):=by
 have slice : ∀{b:Option Addr} {cap:Nat} {xs:List AVal} {news:List Value},vy=.slice b xs.length cap→(∀z,y≠.str z)→news.length=xs.length*sz→(∀u∈news,u.oneCell'=true)→(xs=[] ∨ ∃g off cs,b=some ⟨g,off,none⟩∧RBlk w g cs ∧ ∀j u,news[j]? = some u→w.cell? ((⟨g,off,none⟩:Addr).add j)=some u)→Src P sz tx vy xs.length news w:=by
  intro b cap xs news hvy hy hl h1 hor
  obtain ⟨e',he'⟩:=hsl hy
  rcases hor with rfl|⟨g,off,cs,rfl,hB,hc⟩
  · have:news=[]:=List.length_eq_zero_iff.1 (by simpa using hl)
    subst this
    subst hvy
    cases b with
    | none=>exact Src.ofNil w he' cap
    | some ad=>exact Src.ofSlice w he' ad 0 cap [] (by simp) (by simp) (by simp)
  · subst hvy
    exact Src.ofSlice w he' _ xs.length cap news hl hc h1
 cases y with
 | ro t z xs=>
   simp only [St.more] at h
   cases hb:Nat.beq z sz with
   | false=>rw [hb] at h;simp at h
   | true=>
     rw [hb] at h;simp only [cond_true,Option.some.injEq,Prod.mk.injEq,true_and] at h
     obtain ⟨rfl,rfl⟩:=h
     have hz:=Nat.eq_of_beq_eq_true hb;subst hz
     simp only [EvV] at hv
     obtain ⟨b,cap,h1,h2,h3,news,h4,h5,h6,h7⟩:=ro_front hv
     exact TakeOK.keep hr hm ⟨news,zf,fun _=>Nat.le_refl _,h6,slice h1 (by simp) h4 h5 (h7.imp id fun ⟨_,g,off,cs,k1,k2,k3⟩=>⟨g,off,cs,k1,k2,k3⟩)⟩
 | nils z=>
   simp only [St.more,Option.some.injEq,Prod.mk.injEq,true_and] at h
   obtain ⟨rfl,rfl⟩:=h
   simp only [EvV] at hv
   exact TakeOK.keep hr hm ⟨[],zf,fun _=>Nat.le_refl _,fun c'=>by simp [OwX,zf],slice (xs:=[]) (by simpa using hv) (by simp) (by simp) (by simp) (.inl rfl)⟩
 | str z=>
   simp only [St.more] at h
   cases hb:Nat.beq sz 1 with
   | false=>rw [hb] at h;simp at h
   | true=>
     rw [hb] at h;simp only [cond_true,Option.some.injEq,Prod.mk.injEq,true_and] at h
     obtain ⟨rfl,rfl⟩:=h
     have hz:=Nat.eq_of_beq_eq_true hb;subst hz
     simp only [EvV] at hv
     subst hv
     have hl:(ofBytes z).length=z.size:=by simp [ofBytes]
     refine TakeOK.keep hr hm ⟨byteCells z,zf,fun _=>Nat.le_refl _,fun c'=>bytes_own c' _,?_⟩
     rw [hl]
     exact Src.ofString w (hstr z rfl) z
 | ref K q=>
   cases q with
   | cons i q=>
     simp only [St.more] at h
     cases hob:s.obj K with
     | none=>rw [hob] at h;simp at h
     | some o=>
       rw [hob] at h
       simp only [Option.some.injEq,Prod.mk.injEq,Bool.and_eq_true] at h
       obtain ⟨⟨hok,hsh,hpl⟩,rfl,rfl⟩:=h
       simp only [EvV,EvR,EvP] at hv
       obtain ⟨u,l,hu,hw,hd,_⟩:=hv
       obtain ⟨u',hu',_,hho,_⟩:=hm.old K o hob
       rw [hu] at hu';obtain rfl:=Option.some.inj hu'
       have hAm:Amb M O0 s K=some o:=by
        have hKM:K∈M:=hk K (by simp [AVal.keys])
        have hob':lk s.objs K=some o:=hob
        simp [Amb,hKM,hob']
       obtain ⟨c0,f0,q1,q2,q3,_,_⟩:=(hr.obj K o hAm).loc
       obtain ⟨l',c',E',q6,q7,q8,_,_⟩:=walk_read (i::q) _ o.c c0 f0 (R K) (.inl ⟨f0,fun _=>Nat.le_refl _,q1⟩) q2 q3 (okg_okp _ _ hok)
       rw [hho.walk _ _ hok,hw] at q6
       obtain rfl:=Option.some.inj q6
       cases hc:o.c.get (i::q) <;> rw [hc] at hsh <;> simp [CT.shOwn] at hsh
       rename_i z xs
       subst hsh
       rw [hc] at q8 hpl
       have hOw : ∃E f,OwC w fz E (.own z xs) c' f:=by
        rcases q8 with ⟨f1,_,q8⟩|q8
        · exact ⟨_,f1,q8⟩
        · simp [ROC] at q8
       obtain ⟨E,f,hOw⟩:=hOw
       simp only [OwC] at hOw
       obtain ⟨b,cap,rfl,hle,hor⟩:=hOw
       have hvy:vy=.slice b xs.length cap:=by
        have:=q7.hd
        rw [hd] at this
        exact Option.some.inj this
       simp only [AVal.elems] at hpl ⊢
       rcases hor with ⟨rfl,hg⟩|⟨hz,gb,off,cs,f',rfl,hB,hcs,hX,hg⟩
       · have hx0:xs=[]:=List.length_eq_zero_iff.1 (by omega)
         subst hx0
         exact TakeOK.keep hr hm ⟨[],zf,fun _=>Nat.le_refl _,fun c'=>by simp [OwX,zf],slice (xs:=[]) hvy (by simp) (by simp) (by simp) (.inl rfl)⟩
       · obtain ⟨news,_,e1,e2,e3,e4⟩:=front hB.r rfl hX
         have hf0:f'=zf:=by funext b;exact plain_zero xs _ _ hpl hX b
         subst hf0
         exact TakeOK.keep hr hm ⟨news,zf,fun _=>Nat.le_refl _,e4,slice hvy (by simp) e1 e2 (.inr ⟨gb,off,cs,rfl,hB.r,e3⟩)⟩
   | nil=>
     simp only [St.more] at h
     cases ht:s.take (.ref K []) with
     | none=>rw [ht] at h;simp at h
     | some r=>
       obtain ⟨c,s'⟩:=r
       rw [ht] at h
       simp only [Option.some.injEq,Prod.mk.injEq] at h
       obtain ⟨hsh,rfl,rfl⟩:=h
       obtain ⟨F1,g,h1,h2,h3⟩:=take_ok _ s c s' F G vy ht hk hv hm hr
       cases c <;> simp [CT.shOwn] at hsh
       rename_i z xs
       subst hsh
       have h2':OwC w fz (EvR w O0 R) (.own z xs) [vy] g:=h2
       simp only [OwC] at h2'
       obtain ⟨b,cap,hvy,hle,hor⟩:=h2'
       have hvy:vy=.slice b xs.length cap:=by simpa using hvy
       refine ⟨F1,g,h1,?_,h3⟩
       rcases hor with ⟨rfl,hg⟩|⟨hz,gb,off,cs,f',rfl,hB,hcs,hX,hg⟩
       · have hx0:xs=[]:=List.length_eq_zero_iff.1 (by omega)
         subst hx0
         exact ⟨[],g,fun _=>Nat.le_refl _,fun c'=>by simp only [AVal.elems,OwX];exact hg,slice (xs:=[]) hvy (by simp) (by simp) (by simp) (.inl rfl)⟩
       · obtain ⟨news,_,e1,e2,e3,e4⟩:=front hB.r rfl hX
         exact ⟨news,f',fun b=>by rw [hg];omega,e4,slice hvy (by simp) e1 e2 (.inr ⟨gb,off,cs,rfl,hB.r,e3⟩)⟩
 | _=>simp [St.more] at h
end
end Go.VK
namespace Go.VK
open AVal
section
variable {P:Program} {Φ:Ctx} {w w':World} {fz al:Nat→Prop} {p s:St} {a:Act} {O0:OM} {R:RM} {M:List Nat}
def BaseH (w:World) (fz:Nat→Prop) (ro:Bool) (sz:Nat) (xs:List AVal) (vx:Value) (g:Foot):Prop:=
 ∃(b:Option Addr) (cap:Nat) (olds:List Value) (g':Foot),vx=.slice b xs.length cap∧xs.length≤cap∧(∀i,g' i≤g i)∧olds.length=xs.length*sz∧(∀c',OwX w fz NoE xs sz (olds++c') g') ∧
  (xs=[] ∨ ∃g0 off,b=some ⟨g0,off,none⟩ ∧ ∀(j:Nat) (u:Value),olds[j]? = some u→w.cell? ((⟨g0,off,none⟩:Addr).add j)=some u) ∧
  ((ro=true∧cap=xs.length)∨cap=0 ∨ ∃gb off cs,b=some ⟨gb,off,none⟩∧Blk w gb cs∧off+cap*sz≤cs.size∧olds=(cs.toList.drop off).take (xs.length*sz) ∧ ∀i,g i=g' i+if i=gb then 1 else 0)
theorem base_ok {sz:Nat} {x:AVal} {vx:Value} {xs:List AVal} {s s1:St} {F:Nat→Foot} {G:Foot} (h:s.base x sz=some (true,xs,s1)) (hk : ∀K∈x.keys,K∈M) (hv:EvV w fz O0 R x vx) (hm:Mid M O0 s) (hr:RelO w fz al (EvR w O0 R) (Amb M O0 s) R F G) :
 TakeOK w fz al O0 R M s s1 F G (BaseH w fz (!notRo x) sz xs vx):=by
 cases x with
 | ro t z xs=>
   cases t with
   | false=>simp [St.base] at h
   | true=>
     simp only [St.base] at h
     cases hb:Nat.beq z sz with
     | false=>rw [hb] at h;simp at h
     | true=>
       rw [hb] at h;simp only [cond_true,Option.some.injEq,Prod.mk.injEq,true_and] at h
       obtain ⟨rfl,rfl⟩:=h
       have hz:=Nat.eq_of_beq_eq_true hb;subst hz
       simp only [EvV] at hv
       obtain ⟨b,cap,h1,h2,h3,news,h4,h5,h6,h7⟩:=ro_front hv
       exact TakeOK.keep hr hm ⟨b,cap,news,zf,h1,h2,fun _=>Nat.le_refl _,h4,h6,h7.imp id fun ⟨_,g,off,cs,k1,k2,k3⟩=>⟨g,off,k1,k3⟩,.inl ⟨rfl,h3 rfl⟩⟩
 | nils z=>
   simp only [St.base] at h
   cases hb:Nat.beq z sz with
   | false=>rw [hb] at h;simp at h
   | true=>
     rw [hb] at h;simp only [cond_true,Option.some.injEq,Prod.mk.injEq,true_and] at h
     obtain ⟨rfl,rfl⟩:=h
     simp only [EvV] at hv
     exact TakeOK.keep hr hm ⟨none,0,[],zf,hv,Nat.le_refl _,fun _=>Nat.le_refl _,by simp,fun c'=>by simp [OwX,zf],.inl rfl,.inr (.inl rfl)⟩
 | ref K q=>
   simp only [St.base] at h
   have digd : ∀q c s',s.digC K q=some (true,c,s')→s.dig K q=some (c,s'):=by
    intro q c s' h
    unfold St.digC at h
    unfold St.dig
    cases ho:s.obj K with
    | none=>rw [ho] at h;simp at h
    | some o=>
      rw [ho] at h
      simp only [Option.some.injEq,Prod.mk.injEq] at h ⊢
      obtain ⟨h1,rfl,rfl⟩:=h
      rw [h1];rfl
   have key : ∀c s',s.pull K q=some (true,c,s')→EvV w fz O0 R (.ref K q) vx→TakeOK w fz al O0 R M s s' F G (HandV w fz (EvR w O0 R) c vx):=by
    intro c s' ht hv
    cases q with
    | nil=>
      simp only [St.pull] at ht
      cases hpb:Nat.ble passBase K with
      | true=>rw [hpb] at ht;exact dig_ok (digd _ _ _ ht) (hk K (by simp [AVal.keys])) hv hm hr
      | false=>
        rw [hpb] at ht
        simp only [cond_false] at ht
        cases hta:s.take (.ref K []) with
        | none=>rw [hta] at ht;simp at ht
        | some r=>
          obtain ⟨c',s''⟩:=r
          rw [hta] at ht
          simp only [Option.some.injEq,Prod.mk.injEq,true_and] at ht
          obtain ⟨rfl,rfl⟩:=ht
          exact take_ok _ s c' s'' F G vx hta hk hv hm hr
    | cons i q=>exact dig_ok (digd _ _ _ ht) (hk K (by simp [AVal.keys])) hv hm hr
   cases ht:s.pull K q with
   | none=>rw [ht] at h;simp at h
   | some r=>
      obtain ⟨b,c,s'⟩:=r
      rw [ht] at h
      simp only [Option.some.injEq,Prod.mk.injEq,Bool.and_eq_true] at h
      obtain ⟨⟨rfl,hsh⟩,rfl,rfl⟩:=h
      obtain ⟨F1,g,h1,h2,h3⟩:=key c s' ht hv
      cases c <;> simp [CT.shOwn] at hsh
      rename_i z xs
      subst hsh
      have h2':OwC w fz (EvR w O0 R) (.own z xs) [vx] g:=h2
      simp only [OwC] at h2'
      obtain ⟨b,cap,hvx,hle,hor⟩:=h2'
      have hvx:vx=.slice b xs.length cap:=by simpa using hvx
      refine ⟨F1,g,h1,?_,h3⟩
      rcases hor with ⟨rfl,hg⟩|⟨hz,gb,off,cs,f',rfl,hB,hcs,hX,hg⟩
      · have hx0:xs=[]:=List.length_eq_zero_iff.1 (by omega)
        subst hx0
        exact ⟨b,0,[],g,hvx,Nat.le_refl _,fun _=>Nat.le_refl _,by simp [AVal.elems],fun c'=>by simp only [AVal.elems,OwX];exact hg,.inl rfl,.inr (.inl rfl)⟩
      · obtain ⟨news,e0,e1,e2,e3,e4⟩:=front hB.r rfl hX
        exact ⟨_,cap,news,f',hvx,hle,fun i=>by rw [hg];omega,e1,e4,.inr ⟨gb,off,rfl,e3⟩,.inr (.inr ⟨gb,off,cs,rfl,hB,hcs,e0,hg⟩)⟩
 | _=>simp [St.base] at h
theorem run_append_nothing {t tx ty e:TypeId} {i:TypeInfo} (ht:P.underlying t=some (.slice e)) (hi:P.info? e=some i) {b:Option Addr} {x:Value} (hs:Src P i.size tx x 0 [] w) :
 (Builtin.append_ #[t,tx] ty #[.slice b 0 0,x]).run P w=.ok (.slice b 0 0) w:=by
 have hst : ∀ad:Addr,(storeCells ad []).run P w=.ok () w:=fun _=>rfl
 rcases hs.kind with ⟨e',hk⟩|hk <;> cases b <;> simp [Builtin.append_,run_underlying ht,run_underlying hk,sizeOf,typeInfo,hi,hs.len,hs.cells,hst]
theorem append_ok {s1:St} {F F1:Nat→Foot} {gy gx:Foot} {o:Oper} {M:List Nat} {e:Eff} {d sz:Nat} {xs ys:List AVal} {news:List Value} {g1:Foot} {ro:Bool} {t tx el:Nat} {i:TypeInfo} {z vx vy:Value} {ty:TypeId}
 (hr:Rel w fz al s.env a.tmps s.obj R F) (hal : ∀b,w.heap.size≤b→al b) (hm:Mid M s.obj s1) (h1:RelO w fz al (EvR w s.obj R) (Amb M s.obj s1) R F1 (fun b=>gy b+gx b))
 (hx:BaseH w fz ro sz xs vx gx) (hg1 : ∀b,g1 b≤gy b) (hy : ∀c',OwX w fz NoE ys sz (news++c') g1) (hsrc:Src P sz tx vy ys.length news w) (hcond:(!ro||xs.isEmpty || !ys.isEmpty)=true)
 (hu:P.underlying t=some (.slice el)) (hi:P.info? el=some i) (hz:i.zero=some z) (hsz:i.size=sz) (hpos:0<sz) (hzs:z.cells.size=sz) (hby:0<i.bytes) (hcap:capB (xs.length+ys.length) i.bytes=true)
 (hdM:d∈M) (hfr:s.obj d=none) (hd:d<passBase) (heo:e.objs=((s1.drop d).setObj d { box:=false,c:=.own sz (xs++ys) }).objs) (hek:e.ka=d::s1.ka∧e.ki=s1.ki∧e.kr=s1.kr) (hv:e.v=some (.ref d []))
 (hexec : ∀v w',(Builtin.append_ #[t,tx] ty #[vx,vy]).run P w=.ok v w'→(execOp a.eval o).run P w=.ok (.value v) w'):RunsTo P a o w fz al s R M e:=by
 obtain ⟨b,cap,olds,g2,hvx,hle,hg2,hol,hX,hcells,hor⟩:=hx
 subst hvx
 subst hsz
 have hmix:Mix M s.obj e.objs d=some { box:=false,c:=.own i.size (xs++ys) }:=by
  simp [Mix,hdM,heo,St.setObj,lk_ins]
 have hone : ∀b,gy b+gx b≤1:=h1.g1
 by_cases hroom:xs.length+ys.length≤cap
 · by_cases hc0:cap=0
   ·
    subst hc0
    have hx0:xs=[]:=List.length_eq_zero_iff.1 (by omega)
    have hy0:ys=[]:=List.length_eq_zero_iff.1 (by omega)
    subst hx0;subst hy0
    have hn0:news=[]:=by have:=hsrc.newsLen;exact List.length_eq_zero_iff.1 (by simpa using this)
    subst hn0
    have hrun:=hexec _ _ (run_append_nothing (ty:=ty) (b:=b) hu hi (by simpa using hsrc))
    refine ⟨_,_,w,hrun,.inl rfl,fz,_,_,effOK_hand (l:=.val (.slice b 0 0)) (f:=zf) hr hm h1 (Keep.refl w al) (fun _ _=>rfl) hdM hfr ?_ (fun b=>by simp [zf]) (fun _ _ _ b=>.inr rfl) (fun b hb=>by simp [zf] at hb) heo hek,?_,fun b hb=>.inl hb,fun K hK => ?_⟩
    · unfold OwO;rw [if_neg (by simp)]
      refine ⟨_,rfl,?_,rfl⟩
      simp only [OwC]
      exact ⟨b,0,rfl,Nat.le_refl _,.inl ⟨rfl,fun _=>rfl⟩⟩
    · intro x hx
      rw [hv] at hx;obtain rfl:=Option.some.inj hx
      simp only [EvV,EvR,EvP]
      exact ⟨_,.val _,hmix,by simp [upR,walk_nil],rfl,rfl⟩
    · simp only [upR];rw [if_neg (by omega)]
   · rcases hor with ⟨rfl,hcx⟩|h0|⟨gb,off,cs,rfl,hB,hcs,hole,hgx⟩
     · exfalso
       have hy0:ys=[]:=List.length_eq_zero_iff.1 (by omega)
       subst hy0
       simp at hcond
       subst hcond
       simp at hcx;omega
     · exact absurd h0 hc0
     ·
      have hnl:news.length=ys.length*i.size:=hsrc.newsLen
      have hsum:xs.length*i.size+ys.length*i.size≤cap*i.size:=by rw [←Nat.add_mul];exact Nat.mul_le_mul_right _ hroom
      have hfit:off+xs.length*i.size+news.length≤cs.size:=by rw [hnl];omega
      obtain ⟨el0,fr,hheap,hunf⟩:=hB
      have hB:Blk w gb cs:=⟨el0,fr,hheap,hunf⟩
      obtain ⟨w1,hw1⟩ : ∃w1,w1=w.setCells gb (off+xs.length*i.size) news:=⟨_,rfl⟩
      have hrun:=hexec _ _ (run_append_room_src w t tx ty el i hu hi gb off xs.length cap vy ys.length news hsrc hroom
       (fun j hj=>by rw [hB.r.cell,Array.getElem?_eq_getElem (by omega)];rfl) (fun j hj=>hB.unfrozen (by omega)))
      obtain ⟨k1,k2,k3,k4,k5,k6⟩:=set_cells news (off+xs.length*i.size) w cs hheap
      rw [←hw1] at hrun k1 k2 k3 k4 k5 k6
      rw [setManyV_eq _ _ _ (by simpa using hfit)] at k1
      obtain ⟨cs',hcs'⟩ : ∃cs':Array Value,cs'=(cs.toList.take (off+xs.length*i.size)++(news++cs.toList.drop (off+xs.length*i.size+news.length))).toArray:=⟨_,rfl⟩
      rw [←hcs'] at k1
      have hsz':cs'.size=cs.size:=by rw [hcs'];simp;omega
      have hB1:Blk w1 gb cs':=⟨el0,fr,k1,by rw [hsz'];exact hunf⟩
      have hgb:gx gb=g2 gb+1:=by rw [hgx];simp
      have hgb1:g2 gb=0∧gy gb=0∧g1 gb=0:=by have:=hone gb;have:=hg1 gb;omega
      have hfzb : ∀b,fz b→b≠gb:=fun b hb he=>by subst he;exact (h1.go b (by rw [hgb];omega)).2 hb
      have halb:al gb:=(h1.go gb (by rw [hgb];omega)).1
      have hfzs : ∀b,fz b→fz b∧w1.heap[b]? = w.heap[b]? := fun b hb=>⟨hb,k2 b (hfzb b hb)⟩
      have hkeep:Keep w al w1:=⟨k4,k5,k6,by rw [k3];exact Nat.le_refl _,fun b _ hb=>k2 b (by rintro rfl;exact hb halb)⟩
      have hdrop:cs'.toList.drop off=olds++(news++cs.toList.drop (off+xs.length*i.size+news.length)):=by
       rw [hcs',hole]
       have hl:(cs.toList.take (off+xs.length*i.size)).length=off+xs.length*i.size:=by simp;omega
       rw [List.drop_append_of_le_length (by omega)]
       congr 1
       rw [List.drop_take]
       congr 1;omega
      have hXw:OwX w1 fz NoE (xs++ys) i.size (cs'.toList.drop off) (fun b=>g2 b+g1 b):=by
       rw [hdrop]
       have hX0:=hX []
       rw [List.append_nil] at hX0
       refine OwX.app (OwX.mono hfzs _ _ _ (fun _ _ _ h=>h) _ _ _ (fun b hb=>k2 b (by rintro rfl;omega)) (hy _)) xs olds g2 (OwX.mono hfzs _ _ _ (fun _ _ _ h=>h) _ _ _ (fun b hb=>k2 b (by rintro rfl;omega)) hX0) hol
      have hf : ∀b,(g2 b+g1 b+if b=gb then 1 else 0)≤gy b+gx b:=fun b=>by rw [hgx];have:=hg1 b;omega
      refine ⟨_,_,w1,hrun,.inl rfl,fz,_,_,effOK_hand (l:=.val (.slice (some ⟨gb,off,none⟩) (xs.length+ys.length) cap)) (f:=fun b=>g2 b+g1 b+if b=gb then 1 else 0) hr hm h1 hkeep (fun b hb=>k2 b ?_) hdM hfr ?_ (fun b=>Nat.le_trans (hf b) (hone b)) (fun K u hu b => ?_) (fun b hb=>h1.go b (Nat.lt_of_lt_of_le hb (hf b))) heo hek,?_,fun b hb=>.inl hb,fun K hK => ?_⟩
      · rintro rfl
        rcases hb with ⟨K,u,hu,hb⟩|hb
        · have:=h1.gd K u hu b;omega
        · exact hfzb b hb rfl
      · unfold OwO;rw [if_neg (by simp)]
        refine ⟨_,rfl,?_,rfl⟩
        simp only [OwC,List.length_append]
        exact ⟨_,cap,rfl,hroom,.inr ⟨hpos,gb,off,cs',_,rfl,hB1,by rw [hsz'];exact hcs,hXw,fun _=>rfl⟩⟩
      · have:=h1.gd K u hu b
        have:=hf b
        omega
      · intro x hx
        rw [hv] at hx;obtain rfl:=Option.some.inj hx
        simp only [EvV,EvR,EvP]
        exact ⟨_,.val _,hmix,by simp [upR,walk_nil],rfl,rfl⟩
      · simp only [upR];rw [if_neg (by omega)]
 ·
  simp only [capB,decide_eq_true_eq] at hcap
  have hold:(Builtin.firstCells i.size xs.length (.slice b xs.length cap)).run P w.drew=.ok olds.toArray w.drew:=by
   rcases hcells with rfl|⟨g0,off,rfl,hc⟩
   · have:olds=[]:=List.length_eq_zero_iff.1 (by simpa using hol)
     subst this
     cases b with
     | none=>exact run_firstCells_none w.drew _ _ _ _
     | some ad=>exact run_firstCells_some w.drew _ _ ad _ cap [] (by simp) (by simp)
   · exact run_firstCells_some w.drew _ _ _ _ cap olds hol (fun j v hj=>by have:=hc j v hj;simpa using this)
  have hn:cap<xs.length+ys.length:=by omega
  have hge:=grownCap_ge w (xs.length+ys.length) cap el
  have h63:((xs.length+ys.length:Nat):Int)≤9223372036854775807:=by
   have h3:xs.length+ys.length≤(xs.length+ys.length)*i.bytes:=Nat.le_mul_of_pos_right _ hby
   omega
  have hfit:Builtin.nextslicecap (xs.length+ys.length) cap*i.bytes≤281474976710656:=by
   have h3:=Nat.mul_le_mul_right i.bytes (nextslicecap_le hn)
   have h4:2*(xs.length+ys.length)*i.bytes=2*((xs.length+ys.length)*i.bytes):=by rw [Nat.mul_assoc]
   omega
  have hrun:=hexec _ _ (run_append_grow_src w t tx ty el i z hu hi hz b xs.length cap olds hold vy ys.length news hsrc hn h63 hfit)
  have hlose:RelO w fz al (EvR w s.obj R) (Amb M s.obj s1) R F1 (fun b=>g2 b+g1 b):=h1.lose fun b=>by have:=hg1 b;have:=hg2 b;omega
  refine made_slice (n:=w.drawn+1) (sz:=i.size) (cap:=grownCap w (xs.length+ys.length) cap el) (xs:=xs++ys) (fr:=(0,0)) hr hal hm hlose hdM hfr hd heo hek hv (by rw [List.length_append];exact hrun) (fun o _ h=>by simp at h) (by rw [List.length_append];exact hge) hpos ?_ ?_
  · simp only [Array.size_append,List.size_toArray,List.length_append,size_zeroCells,hzs,hol,hsrc.newsLen]
    have:grownCap w (xs.length+ys.length) cap el=(xs.length+ys.length)+(grownCap w (xs.length+ys.length) cap el-(xs.length+ys.length)):=by omega
    rw [←Nat.add_mul,←Nat.add_mul,←this]
    exact Nat.le_refl _
  · simp only [Array.toList_append,List.append_assoc]
    have hX0:=hX []
    rw [List.append_nil] at hX0
    exact OwX.app (hy _) xs olds g2 hX0 hol
theorem OwX.take {w:World} {fz:Nat→Prop} {E:Env2} {sz:Nat} : ∀(xs:List AVal) (n:Nat) (c:List Value) (f:Foot),OwX w fz E xs sz c f → ∃f':Foot,(∀b,f' b≤f b)∧OwX w fz E (xs.take n) sz c f'
 | [],n,c,f,h=>⟨f,fun _=>Nat.le_refl _,by simpa using h⟩
 | x::xs,0,c,f,h=>⟨zf,fun b=>by simp [zf],by simp [OwX,zf]⟩
 | x::xs,n+1,c,f,h=>by
   simp only [OwX] at h
   obtain ⟨c1,c2,f1,f2,h1,h2,h3,h4,h5⟩:=h
   obtain ⟨g,k1,k2⟩:=OwX.take xs n c2 f2 h4
   refine ⟨fun b=>f1 b+g b,fun b=>by have:=k1 b;rw [h5];dsimp only;omega,?_⟩
   simp only [List.take_succ_cons,OwX]
   exact ⟨c1,c2,f1,g,h1,h2,h3,k2,fun _=>rfl⟩
theorem reslice_ok {s1:St} {F F1:Nat→Foot} {gx:Foot} {o:Oper} {M:List Nat} {e:Eff} {d sz n:Nat} {xs:List AVal} {vx:Value}
 (hr:Rel w fz al s.env a.tmps s.obj R F) (hm:Mid M s.obj s1) (h1:RelO w fz al (EvR w s.obj R) (Amb M s.obj s1) R F1 gx) (hx:BaseH w fz false sz xs vx gx) (hn:n≤xs.length) (hpos:0<sz)
 (hdM:d∈M) (hfr:s.obj d=none) (hd:d<passBase) (heo:e.objs=((s1.drop d).setObj d { box:=false,c:=.own sz (xs.take n) }).objs) (hek:e.ka=d::s1.ka∧e.ki=s1.ki∧e.kr=s1.kr) (hv:e.v=some (.ref d []))
 (hexec : ∀b cap,vx=.slice b xs.length cap→xs.length≤cap → ∃cap',n≤cap'∧cap'≤cap∧(execOp a.eval o).run P w=.ok (.value (.slice (if cap'=0 then b else b.map (·.add (0*sz))) n cap')) w):RunsTo P a o w fz al s R M e:=by
 obtain ⟨b,cap,olds,g2,hvx,hle,hg2,hol,hX,hcells,hor⟩:=hx
 obtain ⟨cap',hc1,hc2,hrun⟩:=hexec b cap hvx hle
 have hmix:Mix M s.obj e.objs d=some { box:=false,c:=.own sz (xs.take n) }:=by
  simp [Mix,hdM,heo,St.setObj,lk_ins]
 have hone:=h1.g1
 have htl:(xs.take n).length=n:=by rw [List.length_take];omega
 have fin : ∀(f:Foot),(∀b,f b≤gx b)→OwC w fz (EvR w s.obj R) (.own sz (xs.take n)) [.slice (if cap'=0 then b else b.map (·.add (0*sz))) n cap'] f→RunsTo P a o w fz al s R M e:=by
  intro f hf hO
  refine ⟨_,_,w,hrun,.inl rfl,fz,_,_,effOK_hand (l:=.val (.slice (if cap'=0 then b else b.map (·.add (0*sz))) n cap')) (f:=f) hr hm h1 (Keep.refl w al) (fun _ _=>rfl) hdM hfr ?_ (fun b=>Nat.le_trans (hf b) (hone b)) (fun K u hu b=>by have:=h1.gd K u hu b;have:=hf b;omega) (fun b hb=>h1.go b (Nat.lt_of_lt_of_le hb (hf b))) heo hek,?_,fun b hb=>.inl hb,fun K hK => ?_⟩
  · unfold OwO;rw [if_neg (by simp)]
    exact ⟨_,rfl,hO,rfl⟩
  · intro x hx
    rw [hv] at hx;obtain rfl:=Option.some.inj hx
    simp only [EvV,EvR,EvP]
    exact ⟨_,.val _,hmix,by simp [upR,walk_nil],rfl,rfl⟩
  · simp only [upR];rw [if_neg (by omega)]
 by_cases hc0:cap'=0
 · refine fin zf (fun b=>by simp [zf]) ?_
   simp only [OwC,htl]
   exact ⟨_,_,rfl,by omega,.inl ⟨hc0,fun _=>rfl⟩⟩
 · rcases hor with ⟨h,_⟩|h0|⟨gb,off,cs,rfl,hB,hcs,hole,hgx⟩
   · simp at h
   · omega
   · have hdr:cs.toList.drop off=olds++(cs.toList.drop off).drop (xs.length*sz):=by rw [hole];exact (List.take_append_drop _ _).symm
     have hX2:=hX ((cs.toList.drop off).drop (xs.length*sz))
     rw [←hdr] at hX2
     obtain ⟨g3,k1,k2⟩:=OwX.take xs n _ _ hX2
     refine fin (fun b=>g3 b+if b=gb then 1 else 0) (fun b=>by rw [hgx];have:=k1 b;omega) ?_
     simp only [OwC,htl]
     refine ⟨some ⟨gb,off,none⟩,cap',by rw [if_neg hc0];simp [Addr.add],hc1,.inr ⟨hpos,gb,off,cs,g3,rfl,hB,?_,k2,fun _=>rfl⟩⟩
     have:=Nat.mul_le_mul_right sz hc2
     omega
end
end Go.VK
namespace Go.VK
open AVal
section
variable {P:Program} {Φ:Ctx} {w w':World} {fz al:Nat→Prop} {p s:St} {a:Act} {O0:OM} {R:RM} {M:List Nat}
theorem OwL.atw {E:Env2} : ∀{xs:List AVal} {c:List Value} {f:Foot} (i:Nat),OwL w fz E xs c f→i<xs.length →
 ∃(v:Value) (f1 f2:Foot),c[i]? = some v∧OwC w fz E (xs.getD i .und) [v] f1∧(∀b,f b=f1 b+f2 b) ∧
  ∀(w1:World) (y:AVal) (v':Value) (f3:Foot),(∀b,0<f2 b∨fz b→w1.heap[b]? = w.heap[b]?)→OwC w1 fz E y [v'] f3→OwL w1 fz E (xs.set i y) (c.set i v') (fun b=>f3 b+f2 b)
 | [],_,_,i,_,hi=>by simp at hi
 | x::xs,c,f,0,h,_=>by
   simp only [OwL] at h
   obtain ⟨v,r,f1,f2,rfl,h1,h2,hff⟩:=h
   refine ⟨v,f1,f2,rfl,h1,hff,fun w1 y v' f3 hw hy => ?_⟩
   simp only [List.set,OwL]
   exact ⟨v',r,f3,f2,rfl,hy,OwL.mono (fun b hb=>⟨hb,hw b (.inr hb)⟩) _ _ _ (fun _ _ _ h=>h) _ _ (fun b hb=>hw b (.inl hb)) h2,fun _=>rfl⟩
 | x::xs,c,f,i+1,h,hi=>by
   simp only [OwL] at h
   obtain ⟨v,r,f1,f2,rfl,h1,h2,hff⟩:=h
   obtain ⟨u,g1,g2,hu,hx,hg,hk⟩:=OwL.atw i h2 (by simpa using hi)
   refine ⟨u,g1,fun b=>f1 b+g2 b,by simpa using hu,by simpa using hx,fun b=>by dsimp only;rw [hff,hg];omega,?_⟩
   intro w1 y v' f3 hw hy
   simp only [List.set,OwL]
   exact ⟨v,r.set i v',f1,fun b=>f3 b+g2 b,rfl,OwC.mono (fun b hb=>⟨hb,hw b (.inr hb)⟩) _ _ _ (fun _ _ _ h=>h) _ _ (fun b hb=>hw b (.inl (by dsimp only;omega))) h1,hk w1 y v' f3 (fun b hb=>hw b (hb.imp (fun h=>by dsimp only;omega) id)) hy,fun b=>by dsimp only;omega⟩
theorem OwX.atw {E:Env2} : ∀{xs:List AVal} {sz:Nat} {c:List Value} {f:Foot} (i:Nat),OwX w fz E xs sz c f→i<xs.length →
 ∃(c1:List Value) (f1 f2:Foot),c1=(c.drop (i*sz)).take sz∧c1.length=sz∧OwC w fz E (xs.getD i .und) c1 f1∧(∀b,f b=f1 b+f2 b) ∧
  ∀(w1:World) (y:AVal) (c':List Value) (f3:Foot),c'.length=sz→(∀b,0<f2 b∨fz b→w1.heap[b]? = w.heap[b]?)→OwC w1 fz E y c' f3→OwX w1 fz E (xs.set i y) sz (c.take (i*sz)++(c'++c.drop (i*sz+sz))) (fun b=>f3 b+f2 b)
 | [],_,_,_,i,_,hi=>by simp at hi
 | x::xs,sz,c,f,0,h,_=>by
   simp only [OwX] at h
   obtain ⟨c1,c2,f1,f2,rfl,hl,h1,h2,hff⟩:=h
   refine ⟨c1,f1,f2,by simp [←hl],hl,h1,hff,fun w1 y c' f3 hc' hw hy => ?_⟩
   simp only [List.set,OwX]
   exact ⟨c',c2,f3,f2,by simp [←hl],hc',hy,OwX.mono (fun b hb=>⟨hb,hw b (.inr hb)⟩) _ _ _ (fun _ _ _ h=>h) _ _ _ (fun b hb=>hw b (.inl hb)) h2,fun _=>rfl⟩
 | x::xs,sz,c,f,i+1,h,hi=>by
   simp only [OwX] at h
   obtain ⟨c1,c2,f1,f2,rfl,hl,h1,h2,hff⟩:=h
   obtain ⟨d1,g1,g2,hd,hdl,hx,hg,hk⟩:=OwX.atw i h2 (by simpa using hi)
   have e1:(c1++c2).drop ((i+1)*sz)=c2.drop (i*sz):=by
    rw [Nat.add_mul,Nat.one_mul,Nat.add_comm,List.drop_append,hl];simp [List.drop_of_length_le,hl]
   have e2:(c1++c2).take ((i+1)*sz)=c1++c2.take (i*sz):=by
    rw [Nat.add_mul,Nat.one_mul,Nat.add_comm,List.take_append,hl];simp [List.take_of_length_le,hl]
   have e3:(c1++c2).drop ((i+1)*sz+sz)=c2.drop (i*sz+sz):=by
    rw [Nat.add_mul,Nat.one_mul,show i*sz+sz+sz=sz+(i*sz+sz) by omega,List.drop_append,hl];simp [List.drop_of_length_le,hl]
   refine ⟨d1,g1,fun b=>f1 b+g2 b,by rw [e1];exact hd,hdl,by simpa using hx,fun b=>by dsimp only;rw [hff,hg];omega,?_⟩
   intro w1 y c' f3 hc' hw hy
   simp only [List.set,OwX]
   refine ⟨c1,c2.take (i*sz)++(c'++c2.drop (i*sz+sz)),f1,fun b=>f3 b+g2 b,by rw [e2,e3,List.append_assoc],hl,OwC.mono (fun b hb=>⟨hb,hw b (.inr hb)⟩) _ _ _ (fun _ _ _ h=>h) _ _ (fun b hb=>hw b (.inl (by dsimp only;omega))) h1,hk w1 y c' f3 hc' (fun b hb=>hw b (hb.imp (fun h=>by dsimp only;omega) id)) hy,fun b=>by dsimp only;omega⟩
theorem row_cells {cs cs' d c1 c1':List Value} {off k sz j:Nat} (hsz:off+k+sz≤cs.length) (hd:d=((cs.drop off).drop k).take sz) (hdl:d.length=sz) (hj:j+c1.length≤sz) (hl:c1'.length=c1.length)
 (hcs:cs'=cs.take (off+k+j)++(c1'++cs.drop (off+k+j+c1.length))) :
 (cs.drop off).take k++((d.take j++(c1'++d.drop (j+c1.length)))++(cs.drop off).drop (k+sz))=cs'.drop off:=by
 subst hcs
 apply List.ext_getElem?
 intro n
 have hdget : ∀m,m<sz→d[m]? = cs[off+k+m]? := by
  intro m hm;rw [hd,List.getElem?_take,if_pos hm,List.getElem?_drop,List.getElem?_drop];congr 1;omega
 have hl0:((cs.drop off).take k).length=k:=by simp;omega
 have hla:(d.take j).length=j:=by simp;omega
 have hdl':(d.take j++(c1'++d.drop (j+c1.length))).length=sz:=by simp [hl];omega
 have hlt:(cs.take (off+k+j)).length=off+k+j:=by simp;omega
 rw [List.getElem?_append,hl0,List.getElem?_drop,List.getElem?_append (l₁:=cs.take (off+k+j)),hlt]
 by_cases h1:n<k
 · rw [if_pos h1,List.getElem?_take,if_pos h1,List.getElem?_drop,if_pos (by omega),List.getElem?_take,if_pos (by omega)]
 · rw [if_neg h1,List.getElem?_append,hdl']
   by_cases h2:n-k<sz
   · rw [if_pos h2,List.getElem?_append,hla]
     by_cases h4:n-k<j
     · rw [if_pos h4,List.getElem?_take,if_pos h4,hdget _ h2,if_pos (by omega),List.getElem?_take,if_pos (by omega)];congr 1;omega
     · rw [if_neg h4,List.getElem?_append,hl,if_neg (by omega : ¬off+n<off+k+j),List.getElem?_append,hl]
       by_cases h5:n-k-j<c1.length
       · rw [if_pos h5,if_pos (by omega)];congr 1;omega
       · rw [if_neg h5,List.getElem?_drop,hdget _ (by omega),if_neg (by omega),List.getElem?_drop];congr 1;omega
   · rw [if_neg h2,List.getElem?_drop,List.getElem?_drop,if_neg (by omega),List.getElem?_append,hl,if_neg (by omega),List.getElem?_drop];congr 1;omega
theorem splice : ∀(p:List Nat) (E:Env2) (x:AVal) (c:List Value) (f:Foot) (l:VK.Loc),OwC w fz E x c f→LocAt w l c→(aggQ x=true → ∃b o,l=.mem b o)→(∀b,f b≤1)→x.okp p=true → ∀b1 o1,walk w x l p=some (.mem b1 o1) →
 ∃(c1:List Value) (f1 f2:Foot),LocAt w (.mem b1 o1) c1∧OwC w fz (deepE E x p) (x.get p) c1 f1∧(∀b,f b=f1 b+f2 b) ∧
 ((x.thru p=false ∧ ∃b o j,l=.mem b o∧b1=b∧o1=o+j∧j+c1.length≤c.length ∧
    ∀(w1:World) (c1':List Value) (y:AVal) (f3:Foot),c1'.length=c1.length→(∀i,i≠b1→w1.heap[i]? = w.heap[i]?)→f2 b1=0 → ¬fz b1→OwC w1 fz (deepE E x p) y c1' f3→OwC w1 fz E (x.put p y) (c.take j++(c1'++c.drop (j+c1.length))) (fun b=>f3 b+f2 b)) ∨
  (f2 b1=1 ∧ ∃cs,Blk w b1 cs∧o1+c1.length≤cs.size ∧
    ∀(w1:World) (cs':Array Value) (c1':List Value) (y:AVal) (f3:Foot),c1'.length=c1.length→cs'.size=cs.size→cs'.toList=cs.toList.take o1++(c1'++cs.toList.drop (o1+c1.length))→(∀i,i≠b1→w1.heap[i]? = w.heap[i]?) → ¬fz b1→Blk w1 b1 cs'→OwC w1 fz (deepE E x p) y c1' f3→OwC w1 fz E (x.put p y) c (fun b=>f3 b+f2 b)))
 | [],E,x,c,f,l,h,hl,_,_,_,b1,o1,hw=>by
   rw [walk_nil] at hw
   obtain rfl:=Option.some.inj hw
   have hg:x.get []=x:=by cases x <;> rfl
   have hE:deepE E x []=E:=by cases x <;> rfl
   refine ⟨c,f,zf,hl,by rw [hg,hE];exact h,fun b=>by simp [zf],.inl ⟨by cases x <;> rfl,b1,o1,0,rfl,rfl,rfl,by omega,fun w1 c1' y f3 hl _ _ _ hy => ?_⟩⟩
   have hp:x.put [] y=y:=by cases x <;> rfl
   rw [hE] at hy
   rw [hp]
   have e:(fun b=>f3 b+zf b)=f3:=by funext b;simp [zf]
   rw [e]
   simpa using hy
 | i::p,E,x,c,f,l,h,hl,hag,hone,hp,b1,o1,hw=>by
   cases x with
   | agg cs=>
     obtain ⟨b,o,rfl⟩:=hag rfl
     simp only [AVal.okp,Bool.and_eq_true,Nat.blt_eq] at hp
     simp only [walk] at hw
     rw [if_pos hp.1] at hw
     simp only [OwC] at h
     have hlen:=OwL.length h
     obtain ⟨v,f1,f2,hv,hx,hff,hk⟩:=OwL.atw i h hp.1
     obtain ⟨c1,g1,g2,hl1,hx1,hgg,hor⟩:=splice p E _ _ f1 _ hx (hl.cellAt hv) (fun _=>⟨_,_,rfl⟩) (fun b=>by have:=hone b;have:=hff b;omega) hp.2 b1 o1 hw
     refine ⟨c1,g1,fun b=>g2 b+f2 b,hl1,by simpa only [deepE,AVal.get] using hx1,fun b=>by dsimp only;rw [hff,hgg];omega,?_⟩
     rcases hor with ⟨hth,b',o',j,hl',hb,ho,hj,hkk⟩|⟨hf1,cs1,hB,ho,hkk⟩
     · simp at hl'
       obtain ⟨rfl,rfl⟩:=hl'
       have hi:i<c.length:=(List.getElem?_eq_some_iff.1 hv).1
       simp only [List.length_singleton] at hj
       refine .inl ⟨by simpa only [AVal.thru] using hth,b,o,i+j,rfl,hb,by omega,by omega,fun w1 c1' y f3 hl2 hs h0 hfz hy => ?_⟩
       have h0':g2 b1+f2 b1=0:=h0
       have h2:=hkk w1 c1' y f3 hl2 hs (by omega) hfz (by simpa only [deepE] using hy)
       obtain ⟨v',hv',hset⟩ : ∃v',[v].take j++(c1'++[v].drop (j+c1.length))=[v']∧c.take (i+j)++(c1'++c.drop (i+j+c1.length))=c.set i v':=by
        rcases Nat.eq_zero_or_pos c1.length with h00|h00
        · have hc1':c1'=[]:=List.length_eq_zero_iff.1 (by omega)
          subst hc1'
          refine ⟨v,?_,?_⟩
          · rw [h00];simp
          · rw [h00,set_self _ _ _ hv];simp
        · have hj0:j=0:=by omega
          have hc1:c1.length=1:=by omega
          subst hj0
          match c1',(by omega:c1'.length=1) with
          | [v'],_=>
            refine ⟨v',by rw [hc1];simp,?_⟩
            rw [hc1,List.set_eq_take_append_cons_drop,if_pos hi];rfl
       rw [hv'] at h2
       rw [hset]
       have h3:=hk w1 _ v' _ (fun b hb=>hs b (fun he=>by rw [he] at hb;exact hb.elim (fun hb=>by omega) hfz)) h2
       simp only [AVal.put,OwC]
       have e:(fun b=>f3 b+(g2 b+f2 b))=(fun b=>f3 b+g2 b+f2 b):=by funext b;omega
       rw [e]
       exact h3
     · refine .inr ⟨by have:=hone b1;have:=hff b1;have:=hgg b1;dsimp only;omega,cs1,hB,ho,fun w1 cs' c1' y f3 hl2 hsz hcs hs hfz hB1 hy => ?_⟩
       have h2:=hkk w1 cs' c1' y f3 hl2 hsz hcs hs hfz hB1 (by simpa only [deepE] using hy)
       have h3:=hk w1 _ v _ (fun b hb=>hs b (fun he=>by rw [he] at hb;exact hb.elim (fun hb=>by have:=hone b1;have:=hff b1;have:=hgg b1;omega) hfz)) h2
       rw [set_self _ _ _ hv] at h3
       simp only [AVal.put,OwC]
       have e:(fun b=>f3 b+(g2 b+f2 b))=(fun b=>f3 b+g2 b+f2 b):=by funext b;omega
       rw [e]
       exact h3
   | own sz xs=>
     simp only [AVal.okp,Bool.and_eq_true,Nat.blt_eq] at hp
     simp only [OwC] at h
     obtain ⟨ad,cap,rfl,hlen,h⟩:=h
     have hne : ¬(cap=0 ∧ ∀b,f b=0):=by rintro ⟨h0,_⟩;omega
     obtain ⟨hz,g,off,cs,f',rfl,hB,hle,hX,hff⟩:=h.resolve_left hne
     simp only [walk] at hw
     rw [if_pos hp.1,hl.hd] at hw
     simp only at hw
     obtain ⟨d,f1,f2,hd,hdl,hx,hff2,hk⟩:=OwX.atw i hX hp.1
     have hsz:off+i*sz+sz≤cs.size:=by
      have:(i+1)*sz≤cap*sz:=Nat.mul_le_mul_right _ (by omega)
      rw [Nat.add_mul] at this;omega
     have hg1:f' g=0:=by have:=hone g;have:=hff g;simp at this;omega
     have hseg:LocAt w (.mem g (off+i*sz)) d:=by rw [hd];exact LocAt.seg hB.r hsz
     obtain ⟨c1,g1,g2,hl1,hx1,hgg,hor⟩:=splice p NoE _ _ f1 _ hx hseg (fun _=>⟨_,_,rfl⟩) (fun b=>by have:=hone b;have:=hff b;have:=hff2 b;omega) hp.2 b1 o1 hw
     rw [deepE_no] at hx1 hor
     refine ⟨c1,g1,fun b=>g2 b+f2 b+if b=g then 1 else 0,hl1,by simpa only [deepE,AVal.get] using hx1,fun b=>by dsimp only;rw [hff,hff2,hgg];omega,?_⟩
     rcases hor with ⟨_,b',o',j,hl',rfl,rfl,hj,hkk⟩|⟨hf1,cs1,hB1,ho,hkk⟩
     · simp at hl'
       obtain ⟨rfl,rfl⟩:=hl'
       have hg0:g2 g=0∧f2 g=0:=by have:=hff2 g;have:=hgg g;omega
       refine .inr ⟨by simp [hg0.1,hg0.2],cs,hB,by omega,fun w1 cs' c1' y f3 hl2 hsz' hcs hs hfz hBn hy => ?_⟩
       have h2:=hkk w1 c1' y f3 hl2 hs hg0.1 hfz (by simpa only [deepE] using hy)
       have hdl':(d.take j++(c1'++d.drop (j+c1.length))).length=sz:=by simp [hl2];omega
       have h3:=hk w1 _ _ _ hdl' (fun b hb=>hs b (fun he=>by rw [he] at hb;exact hb.elim (fun hb=>by omega) hfz)) h2
       rw [row_cells (by simpa using hsz) hd hdl (by omega) hl2 hcs] at h3
       simp only [AVal.put,OwC,List.length_set]
       exact ⟨_,cap,rfl,hlen,.inr ⟨hz,g,off,_,_,rfl,hBn,by rw [hsz'];exact hle,h3,fun b=>by omega⟩⟩
     · have hb1g:b1≠g:=by rintro rfl;have:=hff2 b1;have:=hgg b1;omega
       refine .inr ⟨by have:=hone b1;have:=hff b1;have:=hff2 b1;have:=hgg b1;dsimp only;rw [if_neg hb1g] at *;omega,cs1,hB1,ho,fun w1 cs' c1' y f3 hl2 hsz' hcs hs hfz hBn hy => ?_⟩
       have h2:=hkk w1 cs' c1' y f3 hl2 hsz' hcs hs hfz hBn (by simpa only [deepE] using hy)
       have h3:=hk w1 _ d _ hdl (fun b hb=>hs b (fun he=>by rw [he] at hb;exact hb.elim (fun hb=>by have:=hone b1;have:=hff b1;have:=hff2 b1;have:=hgg b1;omega) hfz)) h2
       rw [seg_split hd] at h3
       simp only [AVal.put,OwC,List.length_set]
       exact ⟨_,cap,rfl,hlen,.inr ⟨hz,g,off,cs,_,rfl,hB.same (hs g (Ne.symm hb1g)),hle,h3,fun b=>by omega⟩⟩
   | tup vs=>simp [OwC] at h
   | _=>simp [AVal.okp] at hp
end
end Go.VK
