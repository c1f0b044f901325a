/- An evaluator of the model's code on values, and the proof that it tells what the code does, part 4; no condition. -/
import Derived.Test.YtgoaegbddpmiiaaVmc
import Derived.LoopN
import Derived.Scope
import Derived.OpenShut
import Derived.Below
namespace Go.VK
open AVal
section
variable {P:Program} {Φ:Ctx} {C:Oracle} {w w':World} {fz fz1 fz2 al fzN:Nat→Prop} {s:St} {a:Act} {R:RM} {M:List Nat} {F:Nat→Foot}
theorem lentH_lt : ∀{l:List (Nat×List Nat)} {ls:List VObj} {vs:List Value} {gs:List Foot} {O0:OM},LentH w fz O0 R l ls vs gs → ∀b,0<sumF gs b→b<w.heap.size
 | [],[],[],[],_,_,b,hb=>by simp [sumF,zf] at hb
 | (K,q)::l,o::ls,v::vs,g::gs,O0,h,b,hb=>by
   simp only [LentH] at h
   obtain ⟨_,_,h3,_,h5⟩:=h
   simp only [sumF] at hb
   by_cases h0:0<g b
   · exact OwC.lt _ _ _ _ h3 b h0
   · exact lentH_lt h5 b (by omega)
 | (K,q)::l,[],vs,gs,_,h,_,_=>by simp [LentH] at h
 | (K,q)::l,o::ls,[],gs,_,h,_,_=>by simp [LentH] at h
 | (K,q)::l,o::ls,v::vs,[],_,h,_,_=>by simp [LentH] at h
 | [],o::ls,vs,gs,_,h,_,_=>by simp [LentH] at h
 | [],[],v::vs,gs,_,h,_,_=>by simp [LentH] at h
 | [],[],[],g::gs,_,h,_,_=>by simp [LentH] at h
theorem recv_sound {o:Oper} {fn:FnI} {f:Nat} {cond lends:Bool} {args:List AVal} {ks:List Nat} {lent rf:List (Nat×List Nat)} {objs ls os:List VObj} {s1:St} {rs:List AVal} {os':List VObj} {e:Eff} {F1:Nat→Foot} {gs:List Foot} {lvs:List Value} {rvs:List Value} {w':World} {F':Nat→Foot} {g:Foot}
 (hF:OpF Φ s o e) (he:callEff Φ o ⟨fn,f,cond,args,ks,lent,objs,ls,s1,lends,rf⟩ rs os'=some e)
 (hm1:Mid (mof Φ s o) s.obj s1) (h1:RelO w fz al (EvR w s.obj R) (Amb (mof Φ s o) s.obj s1) R F1 (sumF gs)) (hlent:LentH w fz s.obj R lent ls lvs gs) (hos:objsOf s1 ks ks=some os)
 (hnd:ks.Nodup) (hksM : ∀K∈ks,K∈mof Φ s o) (hlM : ∀x∈lent,x.1∈mof Φ s o) (hlk2 : ∀x∈lent,x.1∉ks) (happ:lentApart lent=true) (hka:s1.ka=(s.part o.op).ka) (hki : ∀y,y∈s1.ki↔y∈(s.part o.op).ki ∨ ∃x∈lent,(x.1,[])=y) (hkr:s1.kr=(s.part o.op).kr)
 (hrf3 : ∀x∈rf,x.1∉ks∧x.1∈mof Φ s o ∧ ∃u,minus (Amb (mof Φ s o) s.obj s1) ks x.1=some u∧isSl (u.c.get x.2)=true)
 (hfw:(fn.ro Φ && !fn.keep)=true → ∀K o',minus (Amb (mof Φ s o) s.obj s1) ks K=some o' → ∃o2,frzO (minus (Amb (mof Φ s o) s.obj s1) ks) rf K=some o2∧o2.box=o'.box ∧ ∀(w2:World) l' q,walk w2 o2.c l' q=walk w2 o'.c l' q)
 (hfd : ∀K,minus (Amb (mof Φ s o) s.obj s1) ks K=none→frzO (minus (Amb (mof Φ s o) s.obj s1) ks) rf K=none)
 (hRet:(∀o∈os',lowV ks.length o.c=true)→(bif (fn.ro Φ && !fn.keep) then lent.all fun y => !(rf.any fun z=>Nat.beq y.1 z.1) else (!lends||(noRoL rs&&os'.all fun o=>noRo o.c)))=true → ∃fzN OA FA,Ret w fz al s.obj R F1 (mof Φ s o) s1 ks lent rf gs lvs (fn.ro Φ && !fn.keep) rs (os'.map (renVO (ofN ks))) rvs w' fzN OA FA F' g) :
 Post w fz al s R (mof Φ s o) e (retVal rvs) w':=by
 unfold callEff at he
 unfold vrecv at he
 simp only at he
 cases hrs:resvs Φ fn.frz 0 fn.rts rs with
 | none=>rw [hrs] at he;simp at he
 | some r4=>
   obtain ⟨b4,us⟩:=r4
   rw [hrs] at he
   simp only at he
   cases hbw:backWhole s1 ks (os'.map (renVO (ofN ks))) 0 with
   | mk b1 sA=>
     rw [hbw] at he
     simp only at he
     cases hbp:backPart sA lent ls (os'.map (renVO (ofN ks))) ks.length with
     | mk b2 sB=>
       rw [hbp] at he
       simp only [Option.some.injEq] at he
       generalize hfroz:(fn.ro Φ && !fn.keep)=froz at he hfw hRet
       have hec:=hF.cond
       rw [←he] at hec
       simp only [Bool.and_eq_true] at hec
       obtain ⟨⟨hb4,⟨⟨hhold,hlen⟩,hb1,hb2,hcnd⟩,hlow⟩,hkm⟩:=hec
       subst hb1;subst hb2;subst hb4
       have hfl:froz=true → ∀x∈lent,∀z∈rf,x.1≠z.1:=fun hfz x hx z hz he=>by
        rw [hfz] at hcnd
        simp only [cond_true,List.all_eq_true,Bool.not_eq_true',List.any_eq_false] at hcnd
        have:=hcnd x hx z hz
        rw [he] at this;simp at this
       obtain ⟨fzN,OA,FA,hret⟩:=hRet (by simpa [List.all_eq_true] using hlow) hcnd
       obtain ⟨FC,hC,hst,hCka,hCobj⟩:=back_ok hret hm1 h1 hlent hos hnd hksM hlM hlk2 happ (by rw [hka];rfl) (fun K=>by rw [hki];simp [St.part]) (by rw [hkr];rfl) hrf3 hfl hfw hfd hbw hbp
       generalize hsC:(bif froz then sB.freeze rf else sB)=sC at he hC hst hCka hCobj hkm
       have hfzal : ∀b,fzN b→fz b∨al b:=hret.fz1
       cases hdst:o.dst with
       | none=>
         rw [hdst] at he hkm
         simp only at he hkm
         subst he
         have hmix:Mix (mof Φ s o) s.obj sC.objs=Amb (mof Φ s o) s.obj sC:=rfl
         refine ⟨fzN,R,FC,⟨?_,fun K u hu=>(hCobj K u hu).1,hret.fz0,?_,hret.keep⟩,fun v hv=>by simp at hv,hfzal,fun _ _=>rfl⟩
         · rw [hmix];exact hC.lose fun b=>Nat.zero_le _
         · rw [hmix];exact hst
       | some d=>
         rw [hdst] at he hkm
         simp only at he hkm
         have hbeq:=Nat.eq_of_beq_eq_true hlen
         obtain ⟨hus,husf⟩:=resvs_ok (E:=NoE) fn.rts 0 rs us rvs g hrs (by simpa using hbeq.symm) (by simpa using hret.res)
         simp only [holdOK,Bool.and_eq_true] at hhold
         have e2:(fun b=>zf b+g b)=g:=by funext b;simp [zf]
         obtain ⟨OD,RD,hH,hev⟩:=holdAll_ok (d:=d) us 0 sC (Amb (mof Φ s o) s.obj sC) R FC zf g rvs husf hhold.2 (by rw [e2];exact hC) hus
         generalize hall:holdAll sC d 0 us=q at he hH hev hkm
         obtain ⟨sD,vs⟩:=q
         simp only at he hH hev hkm
         have hkam : ∀K∈sD.ka,K∈keysMade Φ o:=fun K hK=>by
          have:=subM_iff.1 hkm K hK
          exact this
         have hfresh : ∀K∈sD.ka,s.obj K=none∧K<passBase∧K∈mof Φ s o:=fun K hK=>by
          have h:=hF.fresh K (hkam K hK)
          exact ⟨h.2,h.1,by simp only [mof,List.mem_append];exact .inl (hkam K hK)⟩
         have hmix:Mix (mof Φ s o) s.obj sD.objs=OD:=by
          funext K
          rcases hH.ins K with ⟨q1,q2,q3⟩|⟨q1,q2⟩
          · rw [q1];simp only [Mix,Amb,q3]
          · rw [q1];simp only [Mix,if_pos (hfresh K q2).2.2]
         have heo:e.objs=sD.objs∧e.ka=sD.ka∧e.ki=sC.ki∧e.kr=sC.kr:=by
          subst he
          exact ⟨rfl,rfl,hH.rest.1,hH.rest.2.1⟩
         have hev2:e.v=some (resE vs):=by
          subst he
          simp only [tmp_set]
         obtain ⟨FD,hD⟩:=hH.rel
         refine ⟨fzN,RD,FD,⟨?_,fun K u hu => ?_,hret.fz0,?_,hret.keep⟩,fun v hv => ?_,hfzal,fun K hK => ?_⟩
         · rw [heo.1,hmix];exact hD
         · rw [heo.1] at hu
           rcases hH.ins K with ⟨q1,q2,q3⟩|⟨q1,q2⟩
           · rw [q3] at hu;exact (hCobj K u hu).1
           · exact (hfresh K q2).2.2
         · rw [heo.1,heo.2.1,heo.2.2.1,heo.2.2.2,hmix]
           refine ⟨fun K u hu hk => ?_⟩
           rcases hH.ins K with ⟨q1,q2,q3⟩|⟨q1,q2⟩
           · obtain ⟨u',t1,t2,t3,t4⟩:=hst.there K u hu (by rw [hCka];simp)
             exact ⟨u',by rw [q1];exact t1,by rw [q2],t3,t4⟩
           · exact absurd q2 hk
         · rw [hev2] at hv
           obtain rfl:=Option.some.inj hv
           rw [heo.1,hmix]
           cases vs with
           | nil=>
             simp only [EvL] at hev;subst hev
             simp only [retVal]
             exact ⟨#[],rfl,by simp [EvL]⟩
           | cons v1 vs=>
             cases vs with
             | nil=>
               simp only [EvL] at hev
               obtain ⟨r1,_,rfl,h2,rfl⟩:=hev
               exact h2
             | cons v2 vs=>
               have hev':=hev
               simp only [EvL] at hev
               obtain ⟨r1,_,rfl,_,r2,rr,rfl,_⟩:=hev
               simp only [retVal]
               exact ⟨_,rfl,by simpa using hev'⟩
         · rcases hH.ins K with ⟨q1,q2,q3⟩|⟨q1,q2⟩
           · exact q2
           · have:=(hfresh K q2).2.1;omega
theorem seeArgs_ok {p:St} {rops:List Nat} {fzA:Nat→Prop} {OE:OM} {RE:RM} (hr:Rel w fz al s.env a.tmps s.obj R F) (hp:Sub p s) (hf : ∀b,b<w.heap.size→fzA b) : ∀(xs:List AVal) (ts:List Nat) (i:Nat) (ys:List AVal) (vs:List Value),seeArgs Φ p rops i ts xs=some (true,ys)→EvL w fz s.obj R xs vs→EvL w fzA OE RE (ys.map shift) vs
 | [],ts,i,ys,vs,h,hv=>by
   simp only [seeArgs,Option.some.injEq,Prod.mk.injEq,true_and] at h
   subst h
   simpa [EvL] using hv
 | x::xs,[],i,ys,vs,h,hv=>by simp [seeArgs] at h
 | x::xs,t::ts,i,ys,vs,h,hv=>by
   simp only [seeArgs] at h
   simp only [EvL] at hv
   obtain ⟨v,r,rfl,h1,h2⟩:=hv
   have hfz : ∀b,fz b→fzA b:=fun b hb=>hf b (hr.lt b hb)
   split at h
   · rename_i b0 y d0 ys' he1 he2
     simp only [Option.some.injEq,Prod.mk.injEq,Bool.and_eq_true] at h
     obtain ⟨⟨rfl,rfl⟩,rfl⟩:=h
     have ih:=seeArgs_ok (OE:=OE) (RE:=RE) hr hp hf xs ts (i+1) ys' r he2 h2
     simp only [List.map_cons,EvL]
     refine ⟨v,r,rfl,?_,ih⟩
     simp only [Bool.cond_eq_ite] at he1
     split at he1
     · split at he1
       · rename_i K q off
         split at he1
         · rename_i o ho
           split at he1
           · rename_i hb
             simp only [Option.some.injEq,Prod.mk.injEq] at he1
             obtain ⟨hpu,rfl⟩:=he1
             have hso:s.obj K=some o:=hp.2 K o ho
             simp only [EvV,EvR,EvP] at h1
             obtain ⟨u,b,q0,hu,hw,rfl⟩:=h1
             rw [hso] at hu;obtain rfl:=Option.some.inj hu
             rw [walk_nil] at hw
             have hob:=hr.obj K o hso
             unfold OwO at hob;rw [if_pos hb] at hob
             obtain ⟨b',cs,f',hl,hB,hc,hfo⟩:=hob
             rw [hl] at hw
             simp only [Option.some.injEq,Loc.mem.injEq] at hw
             obtain ⟨rfl,rfl⟩:=hw
             have hsz:cs.toList.length=width (asRo o.c):=by
              cases hco:o.c with
              | agg xs=>rw [hco] at hc;simp only [OwC] at hc;simp only [asRo,width,asRoL_length];exact hc.length
              | _=>
                rw [hco] at hc
                obtain ⟨v,e⟩:=OwC.single hc rfl
                rw [e];rfl
             have hlt:b'<w.heap.size:=by
              obtain ⟨_,_,hh,_⟩:=hB
              exact (Array.getElem?_eq_some_iff.1 hh).1
             have hro:=asRo_ok hfz o.c cs.toList f' (pure_E _ _ _ hpu hc) (fun b hb=>hf b (OwC.lt _ _ _ _ hc b hb))
             show EvV w fzA OE RE (.rop (asRo o.c) none) _
             simp only [EvV]
             refine ⟨b',0,cs,rfl,hf b' hlt,hB.r,?_⟩
             rw [List.drop_zero,List.take_of_length_le (by rw [hsz];exact Nat.le_refl _)]
             exact hro
           · simp at he1
         · simp at he1
       · rename_i z off
         simp only [Option.some.injEq,Prod.mk.injEq,true_and] at he1
         subst he1
         simp only [EvV] at h1
         obtain ⟨b,o,cs,hv,hb,hB,hx⟩:=h1
         show EvV w fzA OE RE (.rop z off) _
         simp only [EvV]
         exact ⟨b,o,cs,hv,hfz b hb,hB,ROC.mono (fun _ _=>rfl) hfz _ _ hx⟩
       · simp at he1
     · split at he1
       · rename_i hbx
         have hrf : ∀z∈refsIn [x],z∈([]:List (Nat×List Nat)):=by
          cases x <;> simp [boxOK,cellOK] at hbx <;> simp [refsIn]
          rename_i cs
          have : ∀(cs:List AVal),(∀c∈cs,cellOK c=true)→lentIn cs=[]:=by
           intro cs
           induction cs with
           | nil=>intro _;rfl
           | cons c cs ih=>
             intro hc
             have h1:=hc c (by simp)
             have h2:=ih fun d hd=>hc d (by simp [hd])
             cases c <;> simp [cellOK] at h1 <;> simp [lentIn,h2]
          rw [this cs hbx];simp
         exact argv_ok (fz1:=fzA) (O2:=s.obj) (OE:=OE) (RE:=RE) (rf:=[]) ⟨hfz,fun x hx=>by simp at hx⟩ (fun K o ho=>⟨hp.2 K o ho,o,hp.2 K o ho⟩) he1 hrf h1
       · simp at he1
   · simp at h
theorem glance_sound {o:Oper} {c:Call} {x:Sent} {rs:List AVal} {os':List VObj} {e:Eff} (hfns:FnsOK P Φ) (hr:Rel w fz al s.env a.tmps s.obj R F) (hal : ∀b,w.heap.size≤b→al b) (ho:o.op=.call c) (hF:OpF Φ s o e)
 (hx:glance Φ (s.part o.op) c=some x) (hxc:x.cond=true) (he:callEff Φ o x rs os'=some e) :
 ∃(vals:List Value) (fz1 alE:Nat→Prop) (RE:RM) (FE:Nat→Foot),lk Φ.fns x.f=some x.fn∧(execOp a.eval o).run P w=.ok (.enter x.f vals.toArray) w∧Entry w fz1 alE x.args x.objs vals RE FE∧(∀b,alE b→w.heap.size≤b∨al b) ∧
  ∀rvs w' fz2 F' g,Back w fz1 alE x.objs RE rs os' rvs w' fz2 F' g→Post w fz al s R (mof Φ s o) e (retVal rvs) w':=by
 have hp:=part_sub s o.op
 unfold glance at hx
 cases hcal:callee Φ (s.part o.op) c with
 | none=>rw [hcal] at hx;simp at hx
 | some r=>
   obtain ⟨f,ts,xs⟩:=r
   rw [hcal] at hx
   simp only at hx
   cases hfn:lk Φ.fns f with
   | none=>rw [hfn] at hx;simp at hx
   | some fn=>
     rw [hfn] at hx
     simp only [Bool.cond_eq_ite] at hx
     split at hx
     · simp at hx
     cases hsa:seeArgs Φ (s.part o.op) fn.rops 0 ts xs with
     | none=>rw [hsa] at hx;simp at hx
     | some q=>
       obtain ⟨b0,ys⟩:=q
       rw [hsa] at hx
       simp only [Option.some.injEq] at hx
       subst hx
       simp only [Bool.and_eq_true,Bool.not_eq_true'] at hxc
       obtain ⟨rfl,hfz⟩:=hxc
       obtain ⟨fo,fst,caps,hcc,hfo,hxs,hkeys⟩:=callee_spec hr hp hF.keys hcal
       obtain ⟨fg,hg1,hg2,hg3,_,_,_⟩:=(hfns f fn hfn).it
       have hrun:=call_enter (w:=w) ho hcc hfo hg1 hg2 hg3
       have hEv:=seeArgs_ok (fzA:=fun b=>b<w.heap.size) (OE:=objsM []) (RE:=fun _=>.mem 0 0) hr hp (fun b h=>h) xs ts 0 ys _ hsa hxs
       refine ⟨_,fun b=>b<w.heap.size,fun b=>w.heap.size≤b,fun _=>.mem 0 0,fun _=>zf,hfn,by rw [Array.toArray_toList];exact hrun,
        { args:=hEv
          ro:={ obj:=fun K o h=>by simp [objsM,numFrom,lk] at h
                one:=fun K o h=>by simp [objsM,numFrom,lk] at h
                dis:=fun K o J u _ h=>by simp [objsM,numFrom,lk] at h
                own:=fun K o h=>by simp [objsM,numFrom,lk] at h
                g1:=fun b=>by simp [zf]
                gd:=fun K o h=>by simp [objsM,numFrom,lk] at h
                go:=fun b h=>by simp [zf] at h
                lt:=fun b h=>h }
          al:=fun b h=>h
          nk:=fun o h=>by simp at h },fun b h=>.inl h,fun rvs w' fz2 F' g hB => ?_⟩
       have hA:minus (Amb (mof Φ s o) s.obj (s.part o.op)) []=s.obj:=by rw [hF.amb];funext K;simp [minus]
       have hblk : ∀b,b<w.heap.size→w'.heap[b]? = w.heap[b]? := fun b hb=>hB.keep.block b hb (by omega)
       have hlt : ∀K u,s.obj K=some u → ∀b,0<F K b→b<w.heap.size:=fun K u hu b hb=>(hr.obj K u hu).lt hb
       refine recv_sound (ks:=[]) (lent:=[]) (rf:=[]) (gs:=[]) (lvs:=[]) (ls:=[]) (os:=[]) (F1:=F) (g:=g) (F':=F') hF he hF.mid ?_ ?_ rfl List.nodup_nil (by simp) (by simp) (by simp) rfl rfl (fun y=>by simp) rfl (by simp) (fun h=>by rw [hfz] at h;simp at h) (fun K h=>h) fun _ hcnd => ?_
       · rw [hF.amb]
         exact hr.toO
       · simp [LentH]
       · rw [hfz] at hcnd ⊢
         simp only [cond_false,Bool.not_true,Bool.false_or,Bool.and_eq_true] at hcnd
         refine ⟨fz,s.obj,F,?_,fun i n hi => ?_,hB.res.any hcnd.1,?_,fun K=>by rw [hA];simp,fun b hb=>⟨hb,hblk b (hr.lt b hb)⟩,fun b hb=>.inl hb,fun K u hu _ b hb => ?_,⟨hB.keep.os,hB.keep.tape,hB.keep.output,hB.keep.size,fun b hb hn=>hB.keep.block b hb (by omega)⟩⟩
         · refine hr.toO.move (fun b hb => ?_) (fun b hb=>hb) (fun K u hu b hb=>(hr.own K u hu b hb).2) (fun b hb=>Nat.lt_of_lt_of_le (hr.lt b hb) hB.keep.size) (fun b=>by simpa [fsOf,sumF,zf] using hB.ro.g1 b) (fun K u hu b => ?_) (fun b hb => ?_)
           · rcases hb with ⟨K,u,hu,hb⟩|hb
             · exact hblk b (hlt K u hu b hb)
             · exact hblk b (hr.lt b hb)
           · by_cases h0:F K b=0
             · exact .inl h0
             · right
               have h1:=hlt K u hu b (by omega)
               by_cases h2:g b=0
               · simpa [fsOf,sumF,zf] using h2
               · have:=(hB.ro.go b (by omega)).1;omega
           · have h2:0<g b:=by simpa [fsOf,sumF,zf] using hb
             have h3:=(hB.ro.go b h2).1
             exact ⟨hal b h3,fun h=>by have:=hr.lt b h;omega⟩
         · have:os'=[]:=List.length_eq_zero_iff.1 (by simpa using hB.len)
           rw [this] at hi;simp at hi
         · simpa using hB.len
         · rw [hF.amb] at hu
           rcases hb with hb|hb
           · exact hblk b (hlt K u hu b hb)
           · exact hblk b (hr.lt b hb)
theorem call_sound {o:Oper} {c:Call} {x:Sent} {rs:List AVal} {os':List VObj} {e:Eff} (hfns:FnsOK P Φ) (hr:Rel w fz al s.env a.tmps s.obj R F) (hal : ∀b,w.heap.size≤b→al b) (ho:o.op=.call c) (hF:OpF Φ s o e)
 (hx:vsend Φ (s.part o.op) c=some x) (hxc:x.cond=true) (he:callEff Φ o x rs os'=some e) :
 ∃(vals:List Value) (fz1 alE:Nat→Prop) (RE:RM) (FE:Nat→Foot),lk Φ.fns x.f=some x.fn∧(execOp a.eval o).run P w=.ok (.enter x.f vals.toArray) w∧Entry w fz1 alE x.args x.objs vals RE FE∧(∀b,alE b→w.heap.size≤b∨al b) ∧
  ∀rvs w' fz2 F' g,Back w fz1 alE x.objs RE rs os' rvs w' fz2 F' g→Post w fz al s R (mof Φ s o) e (retVal rvs) w':=by
 have hp:=part_sub s o.op
 unfold vsend at hx
 cases hgl:glance Φ (s.part o.op) c with
 | some y=>
   rw [hgl] at hx
   simp only [Option.some.injEq] at hx
   subst hx
   exact glance_sound hfns hr hal ho hF hgl hxc he
 | none=>
 rw [hgl] at hx
 simp only at hx
 have hx:=vsend_old hx hxc
 unfold vsend0 at hx
 cases hcal:callee Φ (s.part o.op) c with
 | none=>rw [hcal] at hx;simp at hx
 | some r=>
   obtain ⟨f,ts,xs⟩:=r
   rw [hcal] at hx
   simp only at hx
   cases hfn:lk Φ.fns f with
   | none=>rw [hfn] at hx;simp at hx
   | some fn=>
     rw [hfn] at hx
     simp only at hx
     obtain ⟨fo,fst,caps,hcc,hfo,hxs,hkeys⟩:=callee_spec hr hp hF.keys hcal
     obtain ⟨fg,hg1,hg2,hg3,_,_,_⟩:=(hfns f fn hfn).it
     have hrun:=call_enter (w:=w) ho hcc hfo hg1 hg2 hg3
     generalize hlt:lentOf fn.muts 0 xs=lent at hx
     generalize hrfe:refsIn (unlent fn.muts 0 xs)=rf at hx
     cases hld:lend (s.part o.op) lent with
     | none=>rw [hld] at hx;simp at hx
     | some r2=>
       obtain ⟨d,ls,s1⟩:=r2
       rw [hld] at hx
       simp only at hx
       generalize hks:passMore s1 3 (passKeys xs [])=ks at hx
       cases haa:allArgs Φ { s1 with objs:=delAll s1.objs ks } ks fn.muts 0 ks.length ts xs with
       | none=>rw [haa] at hx;simp at hx
       | some r3=>
         obtain ⟨b,ys⟩:=r3
         cases hos:objsOf s1 ks ks with
         | none=>rw [haa,hos] at hx;simp at hx
         | some os=>
           rw [haa,hos] at hx
           simp only [Option.some.injEq] at hx
           subst hx
           simp only [Bool.and_eq_true,List.all_eq_true,Bool.not_eq_true'] at hxc
           obtain ⟨rfl,rfl,happ,hlk⟩:=hxc
           have hlk2 : ∀x∈lent,x.1∉ks:=fun x hx=>mem_false.1 (hlk x hx)
           have hlM : ∀x∈lent,x.1∈mof Φ s o:=fun x hx=>hkeys _ (lentOf_keys (by rw [hlt];exact hx))
           have h00:RelO w fz al (EvR w s.obj R) (Amb (mof Φ s o) s.obj (s.part o.op)) R F zf:=by rw [hF.amb];exact hr.toO
           obtain ⟨F1,gs,lvs,h1,hm1,hlent,hF1,hka,hkr,_,hki,hkp⟩:=lend_ok lent (s.part o.op) ls s1 F zf hld hlM hF.mid h00
           have e0:(fun b=>zf b+sumF gs b)=sumF gs:=by funext b;simp [zf]
           rw [e0] at h1
           have hpk:=passKeys_facts xs []
           have hpm:=passMore_facts (s:=s1) 3 (passKeys xs [])
           rw [hks] at hpm
           have hnd:ks.Nodup:=hpm.2 (hpk.2.2.2.1 List.nodup_nil)
           have hksM : ∀K∈ks,K∈mof Φ s o:=fun K hK=>by
            obtain ⟨i,hi⟩:=List.getElem?_of_mem hK
            obtain ⟨u,_,g2,_⟩:=(objsOf_spec ks os hos).2 i K hi
            exact hm1.seen K u g2
           have hks1 : ∀K∈ks,∀u,s1.obj K=some u→s.obj K=some u:=fun K hK u hu=>by
            have:=(hkp K fun x hx he=>hlk2 x hx (he▸hK)).1
            rw [St.obj,this] at hu
            exact lk_part_objs hu
           have hgl : ∀b,0<sumF gs b→b<w.heap.size:=by
            exact lentH_lt hlent
           obtain ⟨fz1,F2,k1,k2,k3,k4,k5,k6,k7,k8,k9,k10,k11,hent⟩:=entry_ok (lent:=lent) (rf:=rf) hm1 h1 hlent hos hks1 hksM (fun K q off h=>hpm.1 K (hpk.2.1 K q off h)) (fun f cs h K q off hk=>hpm.1 K (hpk.2.2.1 f cs h K q off hk)) hnd hlt.symm hrfe.symm hgl haa hxs
           refine ⟨_,fz1,alE w F1 ks gs,RE R ks lvs,FE F1 ks gs,hfn,by rw [Array.toArray_toList];exact hrun,hent,fun b hb => ?_,fun rvs w' fz2 F' g hB => ?_⟩
           · rcases hb with h|⟨J,hJ,h⟩|h
             · exact .inl h
             · obtain ⟨i,hi⟩:=List.getElem?_of_mem hJ
               obtain ⟨u,_,g2,_⟩:=(objsOf_spec ks os hos).2 i J hi
               exact .inr (h1.own J u (by simp only [Amb,if_pos (hksM J hJ)];exact g2) b h).1
             · exact .inr (h1.go b h).1
           refine recv_sound (F1:=F1) (gs:=gs) (lvs:=lvs) (F':=F') (g:=g) hF he hm1 h1 hlent hos hnd hksM hlM hlk2 happ hka hki hkr k10 (fun _=>k7) k8 fun hlow hcnd => ?_
           have hrf3:=k10
           generalize hfroz:(fn.ro Φ && !fn.keep)=froz at hcnd
           have hcond:froz=true∨(∀x∈rf,∀u,minus (Amb (mof Φ s o) s.obj s1) ks x.1=some u→roQ (u.c.get x.2)=true)∨(noRoL rs=true ∧ ∀u∈os',noRo u.c=true):=by
            cases hfz:froz with
            | true=>exact .inl rfl
            | false=>
              right
              rw [hfz] at hcnd
              simp only [cond_false,Bool.or_eq_true,Bool.not_eq_true',Bool.and_eq_true,List.all_eq_true] at hcnd
              rcases hcnd with h|h
              · left
                intro z hz u hu
                obtain ⟨hzk,hzM,u',hu',hsl⟩:=hrf3 z hz
                rw [hu'] at hu;obtain rfl:=Option.some.inj hu
                obtain ⟨u2,hu2,hno⟩:=lendsAny_spec h z (by rw [hrfe];exact hz)
                simp only [St.obj,lk_delAll,if_neg hzk] at hu2
                simp only [minus,if_neg hzk,Amb,if_pos hzM] at hu'
                rw [hu2] at hu';obtain rfl:=Option.some.inj hu'
                exact ro_of_noOwn hsl hno
              · exact .inr h
           exact ret_ok (froz:=froz) h1 hlent hos hksM (fun K hK=>by
            obtain ⟨i,hi⟩:=List.getElem?_of_mem hK
            obtain ⟨u,_,g2,_⟩:=(objsOf_spec ks os hos).2 i K hi
            exact ⟨u,hks1 K hK u g2⟩) hal k1 k2 k3 k4 k5 k8 hrf3 k11 hB hlow hcond
end
end Go.VK
namespace Go.VK
open AVal
section
variable {P:Program} {Φ:Ctx} {C:Oracle} {w w':World} {fz al:Nat→Prop} {s:St} {a:Act} {R:RM} {F:Nat→Foot}
theorem holdCells_objs {d i:Nat} : ∀(cs:List AVal) (c:Nat) (s:St),(∀K,lk (holdCells s d i c cs).1.objs K=lk s.objs K∨K∈(holdCells s d i c cs).1.ka) ∧ ∀K∈s.ka,K∈(holdCells s d i c cs).1.ka
 | [],c,s=>⟨fun _=>.inl rfl,fun _ h=>h⟩
 | x::cs,c,s=>by
   by_cases hx : ∃sz xs,x=.own sz xs
   · obtain ⟨sz,xs,rfl⟩:=hx
     simp only [holdCells]
     obtain ⟨h1,h2⟩:=holdCells_objs cs (c+1) ((s.drop (compKey d i c)).setObj (compKey d i c) { box:=false,c:=.own sz xs })
     refine ⟨fun K => ?_,fun K hK=>h2 K (by simp only [St.setObj,St.drop];exact List.mem_cons_of_mem _ hK)⟩
     rcases h1 K with h|h
     · by_cases hK:K=compKey d i c
       · exact .inr (h2 K (by simp only [St.setObj,St.drop,hK];exact List.mem_cons_self ..))
       · left;rw [h];simp only [St.setObj,St.drop,lk_ins,lk_del,if_neg hK]
     · exact .inr h
   · have e1:holdCells s d i c (x::cs)=((holdCells s d i (c+1) cs).1,x::(holdCells s d i (c+1) cs).2):=by
      cases x <;> simp only [holdCells] <;> exact absurd ⟨_,_,rfl⟩ hx
     rw [e1];exact holdCells_objs cs (c+1) s
theorem holdV_objs {d i:Nat} (v:AVal) (s:St):(∀K,lk (holdV s d i v).1.objs K=lk s.objs K∨K∈(holdV s d i v).1.ka) ∧ ∀K∈s.ka,K∈(holdV s d i v).1.ka:=by
 cases v with
 | own sz xs=>
   simp only [holdV]
   refine ⟨fun K => ?_,fun K hK=>by simp only [St.setObj,St.drop];exact List.mem_cons_of_mem _ hK⟩
   by_cases hK:K=compKey d i 15
   · right;simp only [St.setObj,St.drop,hK];exact List.mem_cons_self ..
   · left;simp only [St.setObj,St.drop,lk_ins,lk_del,if_neg hK]
 | agg cs=>simp only [holdV];exact holdCells_objs cs 0 s
 | tup cs=>
   match cs with
   | [c]=>
     simp only [holdV]
     refine ⟨fun K => ?_,fun K hK=>by simp only [St.setObj,St.drop];exact List.mem_cons_of_mem _ hK⟩
     by_cases hK:K=compKey d i 15
     · right;simp only [St.setObj,St.drop,hK];exact List.mem_cons_self ..
     · left;simp only [St.setObj,St.drop,lk_ins,lk_del,if_neg hK]
   | []=>exact ⟨fun _=>.inl rfl,fun _ h=>h⟩
   | _::_::_=>exact ⟨fun _=>.inl rfl,fun _ h=>h⟩
 | _=>exact ⟨fun _=>.inl rfl,fun _ h=>h⟩
theorem holdAll_objs {d:Nat} : ∀(us:List AVal) (i:Nat) (s:St),(∀K,lk (holdAll s d i us).1.objs K=lk s.objs K∨K∈(holdAll s d i us).1.ka) ∧ ∀K∈s.ka,K∈(holdAll s d i us).1.ka
 | [],i,s=>⟨fun _=>.inl rfl,fun _ h=>h⟩
 | v::us,i,s=>by
   have e1:holdAll s d i (v::us)=((holdAll (holdV s d i v).1 d (i+1) us).1,(holdV s d i v).2::(holdAll (holdV s d i v).1 d (i+1) us).2):=by simp only [holdAll]
   rw [e1]
   obtain ⟨h1,h2⟩:=holdV_objs (d:=d) (i:=i) v s
   obtain ⟨h3,h4⟩:=holdAll_objs (d:=d) us (i+1) (holdV s d i v).1
   refine ⟨fun K => ?_,fun K hK=>h4 K (h2 K hK)⟩
   rcases h3 K with h|h
   · rcases h1 K with h'|h'
     · left;rw [h,h']
     · exact .inr (h4 K h')
   · exact .inr h
theorem glance_st {p:St} {c:Call} {x:Sent} (h:glance Φ p c=some x):x.st=p:=by
 unfold glance at h
 split at h
 · simp at h
 · split at h
   · simp at h
   · simp only [Bool.cond_eq_ite] at h
     split at h
     · simp at h
     · split at h
       · simp only [Option.some.injEq] at h
         subst h;rfl
       · simp at h
theorem calmOK (Φ:Ctx) (C:Oracle):CalmOK Φ C:=by
 intro p o e he hcalm hsub K hK
 unfold effOf veffK at he
 cases hv:veff Φ p o with
 | some e'=>
   rw [hv] at he
   simp only [Option.some.injEq] at he
   subst he
   unfold veff at hv
   simp only at hv
   cases hc:calm Φ p o (o.dst.getD 0) with
   | some c=>
     rw [hc] at hv
     simp only at hv
     cases hco:c.o with
     | none=>
       rw [hco] at hv
       simp only [Option.some.injEq] at hv
       subst hv;rfl
     | some ob=>
       rw [hco] at hv
       cases hd:o.dst with
       | none=>rw [hd] at hv;simp at hv
       | some d=>
         rw [hd] at hv
         dsimp only at hv
         cases hm:mem d (keysMade Φ o) with
         | false=>rw [hm] at hv;simp at hv
         | true=>
           rw [hm] at hv
           simp only [cond_true,Option.some.injEq] at hv
           subst hv
           have hne:d≠K:=by rintro rfl;exact hK (mem_iff.1 hm)
           simp only [lk,beq_ne hne,cond_false,lk_del,if_neg (Ne.symm hne)]
   | none=>
     rw [hc] at hv
     simp only at hv
     cases hl:loud Φ p o (o.dst.getD 0) with
     | none=>rw [hl] at hv;simp at hv
     | some r=>
       rw [hl] at hv
       simp only [Bool.cond_eq_ite] at hv
       split at hv
       · simp at hv
       · simp only [Option.some.injEq] at hv
         subst hv;simp at hcalm
 | none=>
   rw [hv] at he
   simp only at he
   split at he
   · rename_i c ho
     cases hx:vsend Φ p c with
     | none=>rw [hx] at he;simp at he
     | some x=>
       rw [hx] at he
       simp only [Bool.cond_eq_ite] at he
       split at he
       · rename_i hxc
         cases hC:C x.f x.args x.objs with
         | none=>rw [hC] at he;simp at he
         | some r=>
           obtain ⟨rs,os⟩:=r
           rw [hC] at he
           simp only [Option.bind_some] at he
           cases hce:callEff Φ o x rs os with
           | none=>rw [hce] at he;simp at he
           | some e'=>
             rw [hce] at he
             simp only [Option.some.injEq] at he
             subst he
             unfold callEff at hce
             cases hvr:vrecv Φ o.dst x rs os with
             | none=>rw [hvr] at hce;simp at hce
             | some r2=>
               obtain ⟨b,s1⟩:=r2
               rw [hvr] at hce
               simp only [Option.some.injEq] at hce
               subst hce
               simp only [Bool.and_eq_true,List.isEmpty_iff] at hcalm hsub
               obtain ⟨hks,hlt,hrf⟩:=hcalm
               have hst:x.st=p:=by
                unfold vsend at hx
                cases hgl:glance Φ p c with
                | some y=>
                  rw [hgl] at hx
                  simp only [Option.some.injEq] at hx
                  subst hx
                  exact glance_st hgl
                | none=>
                rw [hgl] at hx
                simp only at hx
                have hx:=vsend_old hx hxc
                unfold vsend0 at hx
                split at hx
                · simp at hx
                · split at hx
                  · simp at hx
                  · dsimp only at hx
                    split at hx
                    · simp at hx
                    · rename_i d ls s0 hld
                      split at hx
                      · simp only [Option.some.injEq] at hx
                        subst hx
                        simp only at hlt hks ⊢
                        rw [hlt] at hld
                        simp only [lend,Option.some.injEq,Prod.mk.injEq] at hld
                        exact hld.2.2.symm
                      · simp at hx
               unfold vrecv at hvr
               split at hvr
               · simp at hvr
               · rename_i b4 vs hrs
                 rw [hks,hlt] at hvr
                 simp only [backWhole,backPart,Option.some.injEq,Prod.mk.injEq] at hvr
                 obtain ⟨_,rfl⟩:=hvr
                 have hfz:(bif x.fn.ro Φ && !x.fn.keep then x.st.freeze x.rf else x.st)=p:=by
                  rcases Bool.or_eq_true _ _▸hrf with h|h
                  · rw [List.isEmpty_iff.1 h,hst];simp [St.freeze]
                  · have:(x.fn.ro Φ && !x.fn.keep)=false:=by cases hh:(x.fn.ro Φ && !x.fn.keep) <;> rw [hh] at h <;> simp at h ⊢
                    rw [this,hst];rfl
                 rw [hfz] at hsub ⊢
                 cases hd:o.dst with
                 | none=>rfl
                 | some d=>
                   rw [hd] at hsub
                   simp only at hsub ⊢
                   rcases (holdAll_objs (d:=d) vs 0 p).1 K with h|h
                   · exact h
                   · exact absurd (subM_iff.1 hsub.1 K h) hK
       · simp at he
   · simp at he
end
end Go.VK
namespace Go.VK
open AVal
section
variable {P:Program} {Φ:Ctx} {C:Oracle} {w w':World} {fz al:Nat→Prop} {s:St} {a:Act} {R:RM} {F:Nat→Foot} {X:Fr}
theorem FRel.set {d:Nat} {v:AVal} {val:Value} (h:FRel X s a w) (hd:d<X.nt) (hv : ∀fz R F,Rel w fz X.al s.env a.tmps s.obj R F→EvV w fz s.obj R v val):FRel X (s.set d v) (a.put (some d) val) w:=by
 obtain ⟨⟨fz,R,F,h1,h2⟩,h3,h4,h5⟩:=h
 refine ⟨⟨fz,R,F,⟨fun t x hx => ?_,h1.obj,h1.one,h1.dis,h1.own,h1.lt⟩,h2⟩,h3,by rw [put_defers];exact h4,by rw [put_size];exact h5⟩
 rw [put_size]
 simp only [St.set,lk_ins] at hx
 by_cases ht:t=d
 · subst ht
   rw [if_pos rfl] at hx
   obtain rfl:=Option.some.inj hx
   have hlt:t<a.tmps.size:=by rw [h5];exact hd
   exact ⟨hlt,by rw [put_at a t val hlt];exact hv fz R F h1⟩
 · rw [if_neg ht] at hx
   rw [put_other a (some d) val t (by simp [Ne.symm ht])]
   exact h1.env t x hx
theorem runOp_ok {Q:Exit→Act→World→Prop} (hT:TOK P Φ) (hfns:FnsOK P Φ) {W0:World} (hG:GlOK W0 X.w0 X.al) (hC:CallOK W0 P Φ C) (hX : ∀b,X.w0.heap.size≤b→X.al b) {o:Oper} {i:Nat} {s':St} {d:Done} (h:runOp Φ C o i s mk2=some (s',d)) (hd : ∀d,o.dst=some d→d<X.nt)
 (hr:FRel X s a w) {K:Act→World→Prop} (hK : ∀a' w',FRel X s' a' w'→K a' w'):o.wp P a w K Q:=by
 have hr':=hr
 obtain ⟨⟨fz,R,F,h1,h2,h3,h4⟩,h5,h6,h7⟩:=hr'
 have hal : ∀b,w.heap.size≤b→X.al b:=fun b hb=>hX b (Nat.le_trans h5.size hb)
 cases hx:isExtract o.op with
 | true=>
   unfold runOp at h
   split at h
   · rename_i t j ho
     split at h
     · rename_i vs dd hv hdd
       cases hb:(Nat.blt j vs.length&&noUnd (vs.getD j .und)) with
       | false=>rw [hb] at h;simp at h
       | true=>
         rw [hb] at h
         simp only [cond_true,mk2,Option.some.injEq,Prod.mk.injEq] at h
         obtain ⟨rfl,_⟩:=h
         simp only [Bool.and_eq_true,Nat.blt_eq] at hb
         have hlk:lk s.env t=some (.tup vs):=tmp_some hv (by simp)
         obtain ⟨ht,hev⟩:=h1.env t _ hlk
         simp only [EvV] at hev
         obtain ⟨ws,hw,hl⟩:=hev
         obtain ⟨u,hu,_⟩:=EvL.at hl hb.1
         have hws:ws[j]? = some u:=by simpa using hu
         have hrun:(execOp a.eval o).run P w=.ok (.value u) w:=by
          simp only [execOp,ho]
          refine run_v ?_
          have:a.eval (.tmp t)=.tuple ws:=hw
          rw [this]
          simp only [Instr.extract,hws,Sem.run_pure]
         unfold Oper.wp
         rw [hrun]
         refine hK _ _ ?_
         rw [hdd]
         exact hr.set (hd dd hdd) fun fz R F hrel=>by
          obtain ⟨_,hev⟩:=hrel.env t _ hlk
          simp only [EvV] at hev
          obtain ⟨ws',hw',hl'⟩:=hev
          rw [hw] at hw'
          simp only [Value.tuple.injEq] at hw'
          subst hw'
          obtain ⟨u',hu',hev'⟩:=EvL.at hl' hb.1
          rw [hu] at hu';obtain rfl:=Option.some.inj hu'
          exact hev'
     · simp at h
   · rename_i hne
     cases ho:o.op with
     | extract x j=>
       cases x with
       | tmp t=>exact absurd ho (hne t j)
       | _=>rw [ho] at hx;simp [isExtract] at hx
     | _=>rw [ho] at hx;simp [isExtract] at hx
 | false=>
   cases hpl:plainQ Φ s o with
   | true=>
     obtain ⟨q,dd,hq,hdd⟩:=plainQ_some hpl
     rw [runOp_look hx hq hdd] at h
     cases he:calm Φ s o dd with
     | none=>rw [he] at h;simp at h
     | some e=>
       rw [he] at h
       simp only [Option.bind_some] at h
       cases hc:(e.cond&&e.o.isNone) with
       | false=>rw [hc] at h;simp at h
       | true=>
         rw [hc] at h
         simp only [cond_true,mk2,Option.some.injEq,Prod.mk.injEq] at h
         obtain ⟨rfl,_⟩:=h
         simp only [Bool.and_eq_true,Option.isNone_iff_eq_none] at hc
         have hsub:Sub s s:=⟨fun _ _ h=>h,fun _ _ h=>h⟩
         obtain ⟨val,hrun,hev⟩:=calm_pure hT h1 hsub he hc.1 hc.2 hx
         unfold Oper.wp
         rw [hrun]
         refine hK _ _ ?_
         rw [hdd]
         refine hr.set (hd dd hdd) fun fz R F hrel => ?_
         obtain ⟨val',hrun',hev'⟩:=calm_pure hT hrel hsub he hc.1 hc.2 hx
         rw [hrun] at hrun'
         injection hrun' with h9;injection h9 with h9
         rw [h9];exact hev'
   | false=>
   rw [runOp_plain hx hpl] at h
   cases he:effOf Φ C (s.part o.op) o with
   | none=>rw [he] at h;simp at h
   | some e=>
     rw [he] at h
     simp only [Option.bind_some] at h
     cases hok:okOp Φ s o e with
     | false=>rw [hok] at h;simp at h
     | true=>
       rw [hok] at h
       simp only [cond_true,mk2,Option.some.injEq,Prod.mk.injEq] at h
       obtain ⟨rfl,_⟩:=h
       have hF:=opF hok
       unfold effOf veffK at he
       cases hv:veff Φ (s.part o.op) o with
       | some e'=>
         rw [hv] at he
         simp only [Option.some.injEq] at he
         subst he
         obtain ⟨res,v,w',hrun,hres,hpost⟩:=veff_ok hT h1 hal hx hv hok
         have hfr:=post_frel (o:=o) (v:=v) hr h1 h2 h3 h4 hd hF.sm hpost
         unfold Oper.wp
         rw [hrun]
         rcases hres with rfl|⟨rfl,rfl⟩
         · exact hK _ _ hfr
         · exact hK _ _ hfr
       | none=>
         rw [hv] at he
         simp only at he
         split at he
         · rename_i c ho
           cases hvs:vsend Φ (s.part o.op) c with
           | none=>rw [hvs] at he;simp at he
           | some x=>
             rw [hvs] at he
             simp only [Bool.cond_eq_ite] at he
             split at he
             · rename_i hxc
               cases hCx:C x.f x.args x.objs with
               | none=>rw [hCx] at he;simp at he
               | some r=>
                 obtain ⟨rs,os⟩:=r
                 rw [hCx] at he
                 simp only [Option.bind_some] at he
                 cases hce:callEff Φ o x rs os with
                 | none=>rw [hce] at he;simp at he
                 | some e'=>
                   rw [hce] at he
                   simp only [Option.some.injEq] at he
                   subst he
                   obtain ⟨vals,fz1,alE,RE,FE,hfn,hrun,hent,halE,hback⟩:=call_sound hfns h1 hal ho hF hvs hxc hce
                   unfold Oper.wp
                   rw [hrun]
                   simp only [Oper.upon]
                   refine (hC x.f x.args x.objs rs os x.fn hCx hfn w fz1 alE vals RE FE hent ((hG.keep h5).sub halE)).mono fun en w' hh => ?_
                   obtain ⟨rvs,fz',F',g,rfl,hB⟩:=hh
                   have hpost:=hback rvs w' fz' F' g hB
                   exact hK _ _ (post_frel (o:=o) (v:=retVal rvs) hr h1 h2 h3 h4 hd hF.sm hpost)
             · simp at he
         · simp at he
theorem skip_ok {o:Oper} {i:Nat} {s':St} {d:Done} (h:skipOp o i s mk2=some (s',d)) (hd : ∀d,o.dst=some d→d<X.nt) (hr:FRel X s a w):FRel X s' (a.put o.dst undef) w:=by
 simp only [skipOp,mk2,Option.some.injEq,Prod.mk.injEq] at h
 obtain ⟨rfl,_⟩:=h
 cases ho:o.dst with
 | none=>exact hr
 | some t=>exact hr.set (hd t ho) fun _ _ _ _=>by simp only [EvV];exact ⟨#[],rfl,by simp [EvL]⟩
def DstOK (nt:Nat) (ops:Array Oper):Prop := ∀(i:Nat) (o:Oper),ops[i]? = some o → ∀d,o.dst=some d→d<nt
theorem steps_ok {ops:Array Oper} {Q:Exit→Act→World→Prop} (hT:TOK P Φ) (hfns:FnsOK P Φ) {W0:World} (hG:GlOK W0 X.w0 X.al) (hC:CallOK W0 P Φ C) (hX : ∀b,X.w0.heap.size≤b→X.al b) (hops:DstOK X.nt ops):StepsOK P ops Q (FRel X) (stepF Φ C ops):=by
 intro i s s' d h a w hr K hK
 unfold stepF at h
 cases ho:ops[i]? with
 | none=>rw [ho] at h;simp at h
 | some o=>
   rw [ho] at h
   simp only at h
   have hd:=hops i o ho
   unfold wpOp
   rw [ho]
   simp only
   unfold vop at h
   cases hg:o.guard with
   | none=>
     rw [hg] at h
     rw [if_pos (by simp [Region.wanted,hg])]
     exact .inl (runOp_ok hT hfns hG hC hX h hd hr hK)
   | some jw=>
     obtain ⟨j,want⟩:=jw
     rw [hg] at h
     simp only at h
     cases hj:dstOf ops j with
     | none=>rw [hj] at h;simp at h
     | some g=>
       rw [hj] at h
       simp only at h
       have hj':(ops[j]?).bind (·.dst)=some g:=hj
       obtain ⟨⟨fz,R,F,h1,_⟩,_⟩:=hr
       rename_i hr2
       have hr:FRel X s a w:=⟨⟨fz,R,F,h1,by assumption⟩,by assumption,by assumption,by assumption⟩
       have tmpv : ∀v,s.tmp g=v→v≠.und→g<a.tmps.size∧EvV w fz s.obj R v (a.tmps.getD g undef)∧lk s.env g=some v:=fun v hv hn=>by
        have:=tmp_some hv hn
        obtain ⟨q1,q2⟩:=h1.env g v this
        exact ⟨q1,q2,this⟩
       split at h
       · rename_i b hb
         obtain ⟨q1,q2,q3⟩:=tmpv _ hb (by simp)
         simp only [EvV] at q2
         have hy:yielded ops a.tmps j=some b:=by
          have:a.tmps[g]? = some (.bool b):=by
           rw [Array.getElem?_eq_getElem q1]
           simpa [q1] using q2
          simp [yielded,hj',this]
         have hr0:FRel X (s.set g (.bool b)) a w:=hr.like (set_like q3).symm
         have hw:Region.wanted o (yielded ops a.tmps)=decide (b=want):=by
          simp only [Region.wanted,hg,hy]
          cases b <;> cases want <;> rfl
         rw [hw]
         cases b <;> cases want <;> simp only [cond_true,cond_false] at h
         · rw [if_pos (by decide)];exact .inl (runOp_ok hT hfns hG hC hX h hd hr0 hK)
         · rw [if_neg (by decide)];exact hK _ _ (skip_ok h hd hr0)
         · rw [if_neg (by decide)];exact hK _ _ (skip_ok h hd hr0)
         · rw [if_pos (by decide)];exact .inl (runOp_ok hT hfns hG hC hX h hd hr0 hK)
       · rename_i hb
         obtain ⟨q1,q2,q3⟩:=tmpv _ hb (by simp)
         simp only [EvV] at q2
         obtain ⟨vs,hvs,hl⟩:=q2
         have hy:yielded ops a.tmps j=none:=by
          have:a.tmps[g]? = some (.tuple vs):=by
           rw [Array.getElem?_eq_getElem q1]
           simpa [q1] using hvs
          simp [yielded,hj',this]
         have hw:Region.wanted o (yielded ops a.tmps)=false:=by
          simp [Region.wanted,hg,hy]
         rw [hw]
         simp only [Bool.false_eq_true,if_false]
         exact hK _ _ (skip_ok h hd hr)
       · simp at h
theorem setCell_heap (w:World) (b q:Nat) (v:Value) (i:Nat) (h:i≠b):(w.setCell ⟨b,q,none⟩ v).heap[i]? = w.heap[i]? := by
 simp only [World.setCell,Array.getElem?_modify]
 rw [if_neg (Ne.symm h)]
theorem setCells_heap (b:Nat) : ∀(vs:List Value) (q:Nat) (w:World) (i:Nat),i≠b→(w.setCells b q vs).heap[i]? = w.heap[i]?
 | [],_,_,_,_=>rfl
 | v::r,q,w,i,h=>by rw [World.setCells,setCells_heap b r (q+1) _ i h,setCell_heap _ _ _ _ _ h]
theorem setCell_comm (w:World) {b c:Nat} (h:b≠c) (q r:Nat) (u v:Value):(w.setCell ⟨b,q,none⟩ u).setCell ⟨c,r,none⟩ v=(w.setCell ⟨c,r,none⟩ v).setCell ⟨b,q,none⟩ u:=by
 simp only [World.setCell]
 congr 1
 apply Array.ext_getElem?
 intro i
 simp only [Array.getElem?_modify]
 by_cases hb:b=i
 · subst hb
   rw [if_neg (Ne.symm h),if_pos rfl,if_pos rfl,if_neg (Ne.symm h)]
 · by_cases hc:c=i
   · subst hc;rw [if_pos rfl,if_neg hb,if_neg hb,if_pos rfl]
   · rw [if_neg hc,if_neg hb,if_neg hb,if_neg hc]
theorem setCells_comm1 {b c:Nat} (h:b≠c) (r:Nat) (v:Value) : ∀(us:List Value) (q:Nat) (w:World),(w.setCells b q us).setCell ⟨c,r,none⟩ v=(w.setCell ⟨c,r,none⟩ v).setCells b q us
 | [],_,_=>rfl
 | u::us,q,w=>by simp only [World.setCells];rw [setCells_comm1 h r v us,setCell_comm w h]
theorem setCells_comm {b c:Nat} (h:b≠c) : ∀(us vs:List Value) (q r:Nat) (w:World),(w.setCells b q us).setCells c r vs=(w.setCells c r vs).setCells b q us
 | us,[],_,_,_=>rfl
 | us,v::vs,q,r,w=>by simp only [World.setCells];rw [setCells_comm1 h,setCells_comm h us vs]
theorem bareQ_some {o:Option Oper} (h:bareQ o=true) : ∃op t x X,o=some op∧op.guard=none∧op.dst=none∧op.op=.store t (.tmp x) X:=by
 cases o with
 | none=>simp [bareQ] at h
 | some o=>
   simp only [bareQ,Bool.and_eq_true,Option.isNone_iff_eq_none] at h
   obtain ⟨h1,h2,h3⟩:=h
   split at h3
   · rename_i t x X ho;exact ⟨o,t,x,X,rfl,h1,h2,ho⟩
   · simp at h3
theorem store_inv {s:St} {o:Oper} {t x:Nat} {X:Operand} (ho:o.op=.store t (.tmp x) X) (hg:o.guard=none) (hdst:o.dst=none) {ops:Array Oper} {i:Nat} {s':St} {d:Done} (h:vop Φ C ops o i s mk2=some (s',d)) :
 ∃e T va vx s1,d=doneOf i s (keysMade Φ o) (mof Φ s o) e (moreOf Φ (s.part o.op) o e)∧s'=s.join (mof Φ s o) none e∧okOp Φ s o e=true∧e.calm=false∧Φ.ti t=some T∧(s.part o.op).ev Φ 0 (.tmp x)=some va∧(s.part o.op).ev Φ t X=some vx∧vstore T (s.part o.op) va vx=some (true,s1):=by
 unfold vop at h
 rw [hg] at h
 have h:runOp Φ C o i s mk2=some (s',d):=h
 have hx:isExtract o.op=false:=by rw [ho];rfl
 have hpl:plainQ Φ s o=false:=by simp [plainQ,lookQ,look,ho]
 rw [runOp_plain hx hpl] at h
 cases he:effOf Φ C (s.part o.op) o with
 | none=>rw [he] at h;simp at h
 | some e=>
   rw [he] at h
   simp only [Option.bind_some] at h
   cases hc:okOp Φ s o e with
   | false=>rw [hc] at h;simp at h
   | true=>
     rw [hc] at h
     simp only [cond_true,mk2,Option.some.injEq,Prod.mk.injEq] at h
     obtain ⟨rfl,rfl⟩:=h
     have hF:=opF hc
     unfold effOf veffK at he
     have hcalm : ∀d,calm Φ (s.part o.op) o d=none:=fun d=>by simp only [calm,ho]
     cases hv:veff Φ (s.part o.op) o with
     | none=>rw [hv] at he;simp [ho] at he
     | some e'=>
       rw [hv] at he
       simp only [Option.some.injEq] at he
       subst he
       unfold veff at hv
       simp only [hcalm] at hv
       cases hl:loud Φ (s.part o.op) o (o.dst.getD 0) with
       | none=>rw [hl] at hv;simp at hv
       | some r=>
         obtain ⟨b0,s1⟩:=r
         rw [hl] at hv
         simp only [ho,isStore,Bool.or_true,Bool.not_true,cond_false,Option.some.injEq] at hv
         have hb0:b0=true:=by have:=hF.cond;rw [←hv] at this;exact this
         have hcl:e'.calm=false:=by rw [←hv]
         subst hb0
         simp only [loud,ho] at hl
         split at hl
         · rename_i T va vx hTt hva hvx
           rw [hdst] at hl
           simp only [Option.isNone_none,cond_true] at hl
           rw [←ho] at hva hvx hl
           exact ⟨e',T,va,vx,s1,rfl,by rw [hdst],hc,hcl,hTt,hva,hvx,hl⟩
         · simp at hl
theorem ptr_ok {ops:Array Oper}:PtrOK ops (stepF Φ C ops):=by
 intro i s s' d h hb
 obtain ⟨o,t,x,X,hoo,hg,hd,hop⟩:=bareQ_some hb
 unfold stepF at h
 rw [hoo] at h
 obtain ⟨e,T,va,vx,s1,rfl,_,hok,hcl,_,hva,_,hvs⟩:=store_inv hop hg hd h
 have hF:=opF hok
 unfold vstore at hvs
 split at hvs
 · rename_i K q off
   refine ⟨K,q,?_,ev_keys hF.keys hva K (by simp [AVal.keys]),by simp only [doneOf,hcl,Bool.false_and]⟩
   have hp2:ptrOf Φ (s.part o.op) (.store t (.tmp x) X)=some (K,q):=by simp only [ptrOf,hva]
   simp only [doneOf,moreOf]
   have e9:ptrOf Φ (s.part o.op) o.op=ptrOf Φ (s.part o.op) (.store t (.tmp x) X):=congrArg _ hop
   rw [e9,hp2]
 · simp at hvs
theorem store_conc (hT:TOK P Φ) (hr:Rel w fz al s.env a.tmps s.obj R F) {o:Oper} {t x:Nat} {X:Operand} (ho:o.op=.store t (.tmp x) X) (hg:o.guard=none) (hdst:o.dst=none) {ops:Array Oper} {i:Nat} {s':St} {d:Done} (h:vop Φ C ops o i s mk2=some (s',d)) :
 ∃K q off b q1 M e,lk s.env x=some (.ptr K q off)∧d.more.ptr=some (K,q)∧a.eval (.tmp x)=.pointer (some ⟨b,q1,none⟩)∧0<F K b∧s'=s.join M none e ∧ ∀w0:World,w0.heap[b]? = w.heap[b]? → (execOp a.eval o).run P w0=.ok .skip (w0.setCells b q1 (a.eval X).cells.toList):=by
 obtain ⟨e,T,va,vx,s1,rfl,rfl,hok,hcl,hTt,hva,hvx,hl⟩:=store_inv ho hg hdst h
 have hF:=opF hok
 have hp:=part_sub s o.op
 obtain ⟨K,q,off,rfl,b,q1,k1,k2,k3⟩:=vstore_run hT hr hp hTt hF.mid hF.amb hF.keys ho hva hvx hl
 refine ⟨K,q,off,b,q1,_,_,?_,?_,k1,k2,rfl,k3⟩
 · simp only [St.ev] at hva
   split at hva
   · simp at hva
   · rename_i v hne
     simp only [Option.some.injEq] at hva
     have hlk:=tmp_some (s:=s.part o.op) hva (by simp)
     exact hp.env x _ hlk
 · have hp2:ptrOf Φ (s.part o.op) (.store t (.tmp x) X)=some (K,q):=by simp only [ptrOf,hva]
   simp only [doneOf,moreOf]
   have e9:ptrOf Φ (s.part o.op) o.op=ptrOf Φ (s.part o.op) (.store t (.tmp x) X):=congrArg _ ho
   rw [e9,hp2]
def Still {α:Type} (P:Program) (m:Sem α):Prop := ∀w v w',m.run P w=.ok v w'→w'=w ∧ ∀w0,m.run P w0=.ok v w0
theorem Still.pure {α:Type} (v:α):Still P (Pure.pure v:Sem α):=fun w u w' h=>by
 simp only [Sem.run_pure,Result.ok.injEq] at h ⊢
 exact ⟨h.2.symm,fun _=>⟨h.1,trivial⟩⟩
theorem Still.bind {α β:Type} {m:Sem α} {f:α→Sem β} (hm:Still P m) (hf : ∀v,Still P (f v)):Still P (m >>= f):=fun w v w' h=>by
 rw [Sem.run_bind] at h
 cases hr:m.run P w with
 | ok u w1=>
   rw [hr] at h
   simp only [Result.andThen_ok] at h
   obtain ⟨rfl,h1⟩:=hm w u w1 hr
   obtain ⟨rfl,h2⟩:=hf u _ v w' h
   exact ⟨rfl,fun w0=>by rw [Sem.run_bind,h1 w0,Result.andThen_ok,h2 w0]⟩
 | halt x w1=>rw [hr] at h;simp [Result.andThen] at h
theorem Still.dead {α:Type} {m:Sem α} (h : ∀w v w',m.run P w≠.ok v w'):Still P m:=fun w v w' e=>absurd e (h w v w')
theorem still_program:Still P program:=fun w v w' h=>by
 simp only [run_program,Result.ok.injEq] at h ⊢
 exact ⟨h.2.symm,fun _=>⟨h.1,trivial⟩⟩
theorem still_stuck {α:Type} (z:String):Still P (stuck z:Sem α):=.dead fun w v w' h=>by simp at h
theorem still_uns {α:Type} (u:Unsupported):Still P (unsupported u:Sem α):=.dead fun w v w' h=>by simp at h
theorem still_und (t:TypeId):Still P (underlying t):=by
 unfold underlying
 refine still_program.bind fun p => ?_
 split
 · exact .pure _
 · exact still_stuck _
theorem still_info (t:TypeId):Still P (typeInfo t):=by
 unfold typeInfo
 refine still_program.bind fun p => ?_
 split
 · exact .pure _
 · exact still_stuck _
theorem still_int (v:Value):Still P (asIntOf v):=by
 unfold asIntOf
 split
 · exact .pure _
 · exact still_uns _
 · exact still_stuck _
theorem dead_run {α:Type} (x y:Int) (z:Bool) (c:BoundsCode) (w:World) (v:α) (w':World):(runtimePanic (.bounds x y z c):Sem α).run P w≠.ok v w':=by
 intro h
 unfold runtimePanic at h
 rw [Sem.run_bind,run_program,Result.andThen_ok] at h
 simp at h
theorem dead_bind {α β:Type} {m:Sem α} {f:α→Sem β} (hf : ∀u w v w',(f u).run P w≠.ok v w') (w:World) (v:β) (w':World):(m >>= f).run P w≠.ok v w':=by
 intro h
 rw [Sem.run_bind] at h
 cases hr:m.run P w with
 | ok u w1=>rw [hr] at h;exact hf u w1 v w' h
 | halt z w1=>rw [hr] at h;simp [Result.andThen] at h
theorem dead_bounds {α:Type} (k:IntKind) (x y:Int) (c:BoundsCode) : ∀w v w',(boundsPanic k x y c:Sem α).run P w≠.ok v w':=by
 intro w v w' h
 unfold boundsPanic at h
 dsimp only at h
 split at h
 · exact dead_bind (fun u w v w'=>dead_run _ _ _ _ w v w') w v w' h
 · exact dead_bind (fun u w v w'=>dead_run _ _ _ _ w v w') w v w' h
theorem still_index (t:TypeId) (x i:Value):Still P (Instr.indexAt t x i):=by
 unfold Instr.indexAt
 refine (still_int i).bind fun ki => ?_
 obtain ⟨k,i⟩:=ki
 have hb : ∀(y:Int),Still P (boundsPanic k i y .index:Sem Value):=fun y=>.dead (dead_bounds k i y .index)
 dsimp only
 unfold Instr.sureAddr sizeOf
 repeat' first
  | exact Still.pure _
  | exact still_stuck _
  | exact still_uns _
  | exact hb _
  | exact still_und _
  | exact still_info _
  | exact still_int _
  | refine Still.bind ?_ fun _ => ?_
  | split
  | dsimp only
theorem pair_conc {ops:Array Oper} (hT:TOK P Φ) (hfns:FnsOK P Φ) {W0:World} (hG:GlOK W0 X.w0 X.al) (hC:CallOK W0 P Φ C) (hX : ∀b,X.w0.heap.size≤b→X.al b) (hops:DstOK X.nt ops)
 {x y:Nat} {s s1 s2:St} {dx dy:Done} {Kx:Nat} {qx:List Nat} {Ky:Nat} (hx:stepF Φ C ops x s=some (s1,dx)) (hy:stepF Φ C ops y s1=some (s2,dy)) (hbx:bareQ ops[x]? = true) (hby:bareQ ops[y]? = true) (hpx:dx.more.ptr=some (Kx,qx)) (hpy:dy.more.ptr=some (Ky,[])) (hne:Kx≠Ky)
 {a:Act} {w:World} (hr:FRel X s a w) {K:Act→World→Prop} (hK : ∀a' w',FRel X s2 a' w'→K a' w') :
 ∃ox oy bx px by_ py tx ax Xx ty ay Xy,ops[x]? = some ox∧ops[y]? = some oy∧ox.guard=none∧oy.guard=none∧ox.dst=none∧oy.dst=none∧ox.op=.store tx (.tmp ax) Xx∧oy.op=.store ty (.tmp ay) Xy∧bx≠by_ ∧
  (∀w0:World,w0.heap[bx]? = w.heap[bx]? → (execOp a.eval ox).run P w0=.ok .skip (w0.setCells bx px (a.eval Xx).cells.toList)) ∧
  (∀w0:World,w0.heap[by_]? = w.heap[by_]? → (execOp a.eval oy).run P w0=.ok .skip (w0.setCells by_ py (a.eval Xy).cells.toList)) ∧
  K a ((w.setCells by_ py (a.eval Xy).cells.toList).setCells bx px (a.eval Xx).cells.toList):=by
 obtain ⟨ox,tx,ax,Xx,hox,hgx,hdx,hopx⟩:=bareQ_some hbx
 obtain ⟨oy,ty,ay,Xy,hoy,hgy,hdy,hopy⟩:=bareQ_some hby
 unfold stepF at hx hy
 rw [hox] at hx;rw [hoy] at hy
 simp only at hx hy
 obtain ⟨⟨fz,R,F,h1,h2⟩,h3,h4,h5⟩:=hr
 have hr:FRel X s a w:=⟨⟨fz,R,F,h1,h2⟩,h3,h4,h5⟩
 obtain ⟨Kx',qx',offx,bx,px,Mx,ex,e1,e2,e3,e4,e5,runx⟩:=store_conc hT h1 hopx hgx hdx hx
 rw [hpx] at e2
 simp only [Option.some.injEq,Prod.mk.injEq] at e2
 obtain ⟨rfl,rfl⟩:=e2
 have runOpx:=runOp_ok (Q:=fun _ _ _=>False) hT hfns hG hC hX (show runOp Φ C ox x s mk2=some (s1,dx) by unfold vop at hx;rw [hgx] at hx;exact hx) (hops x ox hox) hr (K:=fun a' w'=>FRel X s1 a' w') (fun _ _ h=>h)
 unfold Oper.wp at runOpx
 rw [runx w rfl] at runOpx
 simp only [Oper.upon,hdx] at runOpx
 have hpa:a.put none undef=a:=rfl
 rw [hpa] at runOpx
 obtain ⟨⟨fz1,R1,F1,g1,g2⟩,g3,g4,g5⟩:=runOpx
 have hr1:FRel X s1 a (w.setCells bx px (a.eval Xx).cells.toList):=⟨⟨fz1,R1,F1,g1,g2⟩,g3,g4,g5⟩
 obtain ⟨Ky',qy,offy,by_,py,My,ey,d1,d2,d3,d4,d5,runy⟩:=store_conc hT g1 hopy hgy hdy hy
 rw [hpy] at d2
 simp only [Option.some.injEq,Prod.mk.injEq] at d2
 obtain ⟨rfl,rfl⟩:=d2
 have runOpy:=runOp_ok (Q:=fun _ _ _=>False) hT hfns hG hC hX (show runOp Φ C oy y s1 mk2=some (s2,dy) by unfold vop at hy;rw [hgy] at hy;exact hy) (hops y oy hoy) hr1 (K:=K) hK
 unfold Oper.wp at runOpy
 rw [runy _ rfl] at runOpy
 simp only [Oper.upon,hdy] at runOpy
 rw [hpa] at runOpy
 have hly:lk s.env ay=some (.ptr Ky [] offy):=by
  rw [e5,lk_join_env,if_neg (by simp)] at d1
  cases hq:lk s.env ay with
  | none=>rw [hq] at d1;simp at d1
  | some u=>
    rw [hq] at d1
    simp only [Option.map_some,Option.some.injEq] at d1
    rw [kill_ptr d1]
 have hevy:=(h1.env ay _ hly).2
 simp only [EvV,EvR,EvP] at hevy
 obtain ⟨oK,bb,qq,hoK,hwk,hval⟩:=hevy
 rw [walk_nil] at hwk
 have hbb:bb=by_:=by
  have:a.eval (.tmp ay)=a.tmps.getD ay undef:=rfl
  rw [this,hval] at d3
  simp at d3;exact d3.1
 obtain ⟨c0,f0,r5,r6,r7,r8,r9⟩:=(h1.obj Ky oK hoK).loc
 have hFy:0<F Ky by_:=by rw [←hbb];exact r9 bb qq (Option.some.inj hwk)
 have hexx:=(h1.env ax _ e1).2
 simp only [EvV,EvR,EvP] at hexx
 obtain ⟨oX,_,_,hoX,_,_⟩:=hexx
 have hbne:bx≠by_:=fun he=>by
  have:=h1.dis Kx oX Ky oK hne hoX hoK bx
  rw [←he] at hFy;omega
 refine ⟨ox,oy,bx,px,by_,py,tx,ax,Xx,ty,ay,Xy,hox,hoy,hgx,hgy,hdx,hdy,hopx,hopy,hbne,runx,fun w0 hw0=>runy w0 (by rw [setCells_heap _ _ _ _ _ (Ne.symm hbne)];exact hw0),?_⟩
 rw [setCells_comm (Ne.symm hbne)]
 exact runOpy
theorem pairs_ok {ops:Array Oper} {Q:Exit→Act→World→Prop} (hT:TOK P Φ) (hfns:FnsOK P Φ) {W0:World} (hG:GlOK W0 X.w0 X.al) (hC:CallOK W0 P Φ C) (hX : ∀b,X.w0.heap.size≤b→X.al b) (hops:DstOK X.nt ops):PairsOK P ops Q (FRel X) (stepF Φ C ops):=by
 intro x y s s1 s2 dx dy Kx qx Ky hx hy hbx hby hpx hpy hne a w hr K hK
 obtain ⟨ox,oy,bx,px,by_,py,tx,ax,Xx,ty,ay,Xy,hox,hoy,hgx,hgy,hdx,hdy,_,_,hbne,runx,runy,hfin⟩:=pair_conc hT hfns hG hC hX hops hx hy hbx hby hpx hpy hne hr hK
 have hpa:a.put none undef=a:=rfl
 unfold wpOp
 rw [hoy]
 simp only
 rw [if_pos (by simp [Region.wanted,hgy])]
 refine .inl ?_
 unfold Oper.wp
 rw [runy w rfl]
 simp only [Oper.upon,hdy]
 rw [hpa,hox]
 simp only
 rw [if_pos (by simp [Region.wanted,hgx])]
 refine .inl ?_
 rw [runx _ (by rw [setCells_heap _ _ _ _ _ hbne])]
 simp only [hdx]
 rw [hpa]
 exact hfin
theorem eval_put {a:Act} {t:Nat} {v:Value} {x:Operand} (h:x≠.tmp t):(a.put (some t) v).eval x=a.eval x:=by
 cases x with
 | tmp r=>exact put_other a (some t) v r (fun he=>h (by simp at he;rw [he]))
 | _=>rfl
theorem triples_ok {ops:Array Oper} {Q:Exit→Act→World→Prop} (hT:TOK P Φ) (hfns:FnsOK P Φ) {W0:World} (hG:GlOK W0 X.w0 X.al) (hC:CallOK W0 P Φ C) (hX : ∀b,X.w0.heap.size≤b→X.al b) (hops:DstOK X.nt ops):TriplesOK P ops Q (FRel X) (stepF Φ C ops):=by
 intro u x y s s0 s1 s2 du dx dy Kx qx Ky hu hx hy hidx hbx hby hpx hpy hne a w hr K hK
 have hidx0:=hidx
 unfold idxQ at hidx
 split at hidx
 · rename_i ou ox' hou hox'
   simp only [Bool.and_eq_true,Option.isNone_iff_eq_none] at hidx
   obtain ⟨hgu,hm,_⟩:=hidx
   split at hm
   · rename_i T A I t T2 r X2 hopu hdu hopx2
     simp only [Bool.and_eq_true,Bool.not_eq_true'] at hm
     obtain ⟨_,hmem⟩:=hm
     have hnot:=mem_false.1 hmem
     have hu0:=hu
     unfold stepF at hu
     rw [hou] at hu
     simp only at hu
     have runOpu:=runOp_ok (Q:=fun _ _ _=>False) hT hfns hG hC hX (show runOp Φ C ou u s mk2=some (s0,du) by unfold vop at hu;rw [hgu] at hu;exact hu) (hops u ou hou) hr (K:=fun a' w'=>FRel X s0 a' w') (fun _ _ h=>h)
     unfold Oper.wp at runOpu
     have hsem : ∀w0,(execOp a.eval ou).run P w0=((Instr.indexAt T (a.eval A) (a.eval I)).run P w0).andThen fun v w'=>.ok (.value v) w':=fun w0=>by
      simp only [execOp,hopu,Sem.run_bind,Sem.run_pure]
     rw [hsem] at runOpu
     cases hrun:(Instr.indexAt T (a.eval A) (a.eval I)).run P w with
     | halt z w'=>
       rw [hrun] at runOpu
       simp only [Result.andThen] at runOpu
       cases z <;> simp [Oper.upon] at runOpu
     | ok v w'=>
       obtain ⟨rfl,hall⟩:=still_index T (a.eval A) (a.eval I) w v w' hrun
       rw [hrun] at runOpu
       simp only [Result.andThen_ok,Oper.upon,hdu] at runOpu
       obtain ⟨ox,oy,bx,px,by_,py,tx,ax,Xx,ty,ay,Xy,hox,hoy,hgx,hgy,hdx,hdy,hopx,hopy,hbne,runx,runy,hfin⟩:=pair_conc hT hfns hG hC hX hops hx hy hbx hby hpx hpy hne runOpu hK
       have hly : ∀z∈opTmps oy.op,z≠t:=fun z hz he=>hnot (by
        subst he
        simp only [looks,hoy,hgy];exact hz)
       have hay:ay≠t:=hly ay (by simp [opTmps,hopy,Op.operands])
       have hXy:Xy≠.tmp t:=fun he=>by
        subst he
        exact hly t (by simp [opTmps,hopy,Op.operands]) rfl
       have e1:(a.put (some t) v).eval (.tmp ay)=a.eval (.tmp ay):=eval_put (fun he=>hay (by simpa using he))
       have e2:(a.put (some t) v).eval Xy=a.eval Xy:=eval_put hXy
       have e3:execOp a.eval oy=execOp (a.put (some t) v).eval oy:=by simp only [execOp,hopy,e1,e2]
       have hpa : ∀a:Act,a.put none undef=a:=fun _=>rfl
       unfold wpOp
       rw [hoy]
       simp only
       rw [if_pos (by simp [Region.wanted,hgy])]
       refine .inl ?_
       unfold Oper.wp
       rw [e3,runy w' rfl]
       simp only [Oper.upon,hdy]
       rw [hpa,hou]
       simp only
       rw [if_pos (by simp [Region.wanted,hgu])]
       refine .inl ?_
       rw [hsem,hall]
       simp only [Result.andThen_ok,hdu]
       rw [hox]
       simp only
       rw [if_pos (by simp [Region.wanted,hgx])]
       refine .inl ?_
       rw [runx _ (by rw [setCells_heap _ _ _ _ _ hbne])]
       simp only [hdx]
       rw [hpa]
       exact hfin
   · simp at hm
 · simp at hidx
end
end Go.VK
namespace Go.VK
open AVal
section
variable {P:Program} {Φ:Ctx} {C:Oracle} {w w':World} {fz al:Nat→Prop} {s:St} {a:Act} {O:OM} {R:RM} {F:Nat→Foot} {X:Fr}
theorem renKL_length (K t:Nat) : ∀(cs:List AVal),(renKL K t cs).length=cs.length
 | []=>rfl
 | c::cs=>by simp [renKL,renKL_length K t cs]
theorem renKL_getD (K t:Nat) : ∀(cs:List AVal) (i:Nat),(renKL K t cs).getD i .und=renK K t (cs.getD i .und)
 | [],i=>by simp [renKL,renK]
 | c::cs,0=>rfl
 | c::cs,i+1=>by simpa [renKL] using renKL_getD K t cs i
theorem walk_ren (K t:Nat) : ∀(r:List Nat) (x:AVal) (l:VK.Loc),walk w (renK K t x) l r=walk w x l r
 | [],x,l=>by rw [walk_nil,walk_nil]
 | j::r,x,l=>by
   cases x with
   | agg cs=>
     cases l with
     | val v=>simp [renK,walk]
     | mem b o=>simp only [renK,walk,renKL_length,renKL_getD,walk_ren K t r]
   | tup vs=>simp [renK,walk]
   | _=>simp [renK,walk]
def renO (O:OM) (K t:Nat):OM:=fun J=>if J=t then (O K).map (fun o=>{ o with c:=renK K t o.c }) else if J=K then none else (O J).map fun o=>{ o with c:=renK K t o.c }
theorem renO_at {K t J:Nat} {o:VObj} (h:O J=some o) (hJ:J≠t):renO O K t (if J=K then t else J)=some { o with c:=renK K t o.c }:=by
 unfold renO
 by_cases hK:J=K
 · rw [if_pos hK,if_pos rfl,←hK,h];rfl
 · rw [if_neg hK,if_neg hJ,if_neg hK,h];rfl
theorem renR_at {K t J:Nat} (hJ:J≠t):upR R t (R K) (if J=K then t else J)=R J:=by
 unfold upR
 by_cases hK:J=K
 · rw [if_pos hK,if_pos rfl,hK]
 · rw [if_neg hK,if_neg hJ]
theorem bif_eq (J K t:Nat):(bif Nat.beq J K then t else J)=if J=K then t else J:=by
 by_cases h:J=K
 · subst h;simp
 · rw [beq_ne h,if_neg h];rfl
theorem evP_ren {K t:Nat} {x:AVal} {v:Value} (ht:t∉x.keys) (h:EvP w O R x v):EvP w (renO O K t) (upR R t (R K)) (renK K t x) v:=by
 cases x <;> simp only [renK,EvP,bif_eq] at h ⊢
 case nilp=>exact h
 case ptr J p off=>
  obtain ⟨o,b,q,ho,hw,hv⟩:=h
  have hJ:J≠t:=fun he=>ht (by simp [AVal.keys,he])
  exact ⟨_,b,q,renO_at ho hJ,by rw [renR_at hJ,walk_ren];exact hw,hv⟩
 case ref J p=>
  obtain ⟨o,l,ho,hw,hv⟩:=h
  have hJ:J≠t:=fun he=>ht (by simp [AVal.keys,he])
  exact ⟨_,l,renO_at ho hJ,by rw [renR_at hJ,walk_ren];exact hw,hv⟩
theorem evPs_renK {K t:Nat} : ∀{cs:List AVal} {vs:List Value},t∉keysL cs→EvPs w O R cs vs→EvPs w (renO O K t) (upR R t (R K)) (renKL K t cs) vs
 | [],vs,_,h=>by simpa only [renKL,EvPs] using h
 | c::cs,vs,ht,h=>by
   simp only [keysL,List.mem_append,not_or] at ht
   simp only [EvPs] at h
   obtain ⟨v,r,h1,h2,h3⟩:=h
   simp only [renKL,EvPs]
   exact ⟨v,r,h1,evP_ren ht.1 h2,evPs_renK ht.2 h3⟩
theorem evR_ren {K t:Nat} {x:AVal} {v:Value} (ht:t∉x.keys) (h:EvR w O R x v):EvR w (renO O K t) (upR R t (R K)) (renK K t x) v:=by
 cases x <;> simp only [renK,EvR] at h ⊢
 case clo f cs=>
  obtain ⟨vs,h1,h2⟩:=h
  exact ⟨vs,h1,evPs_renK (by simpa [AVal.keys] using ht) h2⟩
 all_goals exact evP_ren ht h
mutual
theorem evV_ren {K t:Nat} : ∀(x:AVal) (v:Value),t∉x.keys→EvV w fz O R x v→EvV w fz (renO O K t) (upR R t (R K)) (renK K t x) v
 | .und,v,_,h=>by simpa only [renK,EvV] using h
 | .bool _,v,_,h=>by simpa only [renK,EvV] using h
 | .int _ _,v,_,h=>by simpa only [renK,EvV] using h
 | .str _,v,_,h=>by simpa only [renK,EvV] using h
 | .nilp,v,_,h=>by simpa only [renK,EvV] using h
 | .unk,v,_,h=>by simpa only [renK,EvV] using h
 | .nils _,v,_,h=>by simpa only [renK,EvV] using h
 | .ro _ _ _,v,_,h=>by simpa only [renK,EvV] using h
 | .own _ _,v,_,h=>by simp [EvV] at h
 | .rop _ _,v,_,h=>by simpa only [renK,EvV] using h
 | .ptr J q off,v,ht,h=>by simp only [EvV] at h;have:=evR_ren (K:=K) ht h;simpa only [renK,EvV] using this
 | .ref J q,v,ht,h=>by simp only [EvV] at h;have:=evR_ren (K:=K) ht h;simpa only [renK,EvV] using this
 | .clo f cs,v,ht,h=>by simp only [EvV] at h;have:=evR_ren (K:=K) ht h;simpa only [renK,EvV] using this
 | .agg cs,v,ht,h=>by
   simp only [EvV] at h
   obtain ⟨vs,h1,h2⟩:=h
   simp only [renK,EvV]
   exact ⟨vs,h1,evL_ren cs vs.toList (by simpa [AVal.keys] using ht) h2⟩
 | .tup cs,v,ht,h=>by
   simp only [EvV] at h
   obtain ⟨vs,h1,h2⟩:=h
   simp only [renK,EvV]
   exact ⟨vs,h1,evL_ren cs vs.toList (by simpa [AVal.keys] using ht) h2⟩
theorem evL_ren {K t:Nat} : ∀(xs:List AVal) (vs:List Value),t∉keysL xs→EvL w fz O R xs vs→EvL w fz (renO O K t) (upR R t (R K)) (renKL K t xs) vs
 | [],vs,_,h=>by simpa only [renKL,EvL] using h
 | x::xs,vs,ht,h=>by
   simp only [keysL,List.mem_append,not_or] at ht
   simp only [EvL] at h
   obtain ⟨v,r,h1,h2,h3⟩:=h
   simp only [renKL,EvL]
   exact ⟨v,r,h1,evV_ren x v ht.1 h2,evL_ren xs r ht.2 h3⟩
end
mutual
theorem owC_ren {K t:Nat} : ∀(x:AVal) (c:List Value) (f:Foot),t∉x.keys→OwC w fz (EvR w O R) x c f→OwC w fz (EvR w (renO O K t) (upR R t (R K))) (renK K t x) c f
 | .agg cs,c,f,ht,h=>by simp only [renK,OwC] at h ⊢;exact owL_ren cs c f (by simpa [AVal.keys] using ht) h
 | .bool _,c,f,_,h=>by simpa only [renK,OwC] using h
 | .int _ _,c,f,_,h=>by simpa only [renK,OwC] using h
 | .str _,c,f,_,h=>by simpa only [renK,OwC] using h
 | .nilp,c,f,_,h=>by simpa only [renK,OwC] using h
 | .unk,c,f,_,h=>by simpa only [renK,OwC] using h
 | .nils _,c,f,_,h=>by simpa only [renK,OwC] using h
 | .ro _ _ _,c,f,_,h=>by simpa only [renK,OwC] using h
 | .own _ _,c,f,_,h=>by simpa only [renK,OwC] using h
 | .und,c,f,_,h=>by simpa only [renK,OwC] using h
 | .ptr J p off,c,f,ht,h=>by
   simp only [OwC] at h
   obtain ⟨⟨v,h1,h2,h3⟩,h0⟩:=h
   have:=evR_ren (K:=K) ht h3
   simp only [renK] at this ⊢
   simp only [OwC]
   exact ⟨⟨v,h1,h2,this⟩,h0⟩
 | .mp _ _,c,f,_,h=>by simpa only [renK,OwC] using h
 | .rop _ _,c,f,_,h=>by simp [OwC] at h
 | .ref J p,c,f,ht,h=>by
   simp only [OwC] at h
   obtain ⟨⟨v,h1,h2,h3⟩,h0⟩:=h
   have:=evR_ren (K:=K) ht h3
   simp only [renK] at this ⊢
   simp only [OwC]
   exact ⟨⟨v,h1,h2,this⟩,h0⟩
 | .tup _,c,f,_,h=>by simp [OwC] at h
 | .clo g cs,c,f,ht,h=>by
   simp only [OwC] at h
   obtain ⟨⟨v,h1,h2,h3⟩,h0⟩:=h
   have:=evR_ren (K:=K) ht h3
   simp only [renK] at this ⊢
   simp only [OwC]
   exact ⟨⟨v,h1,h2,this⟩,h0⟩
theorem owL_ren {K t:Nat} : ∀(xs:List AVal) (c:List Value) (f:Foot),t∉keysL xs→OwL w fz (EvR w O R) xs c f→OwL w fz (EvR w (renO O K t) (upR R t (R K))) (renKL K t xs) c f
 | [],c,f,_,h=>by simpa only [renKL,OwL] using h
 | x::xs,c,f,ht,h=>by
   simp only [keysL,List.mem_append,not_or] at ht
   simp only [OwL] at h
   obtain ⟨v,r,f1,f2,h0,h1,h2,h3⟩:=h
   simp only [renKL,OwL]
   exact ⟨v,r,f1,f2,h0,owC_ren x _ f1 ht.1 h1,owL_ren xs r f2 ht.2 h2,h3⟩
end
theorem aggQ_ren (K t:Nat) (x:AVal):aggQ (renK K t x)=aggQ x:=by cases x <;> rfl
theorem owO_ren {K t:Nat} {o:VObj} {l:VK.Loc} {f:Foot} (ht:t∉o.c.keys) (h:OwO w fz (EvR w O R) o l f):OwO w fz (EvR w (renO O K t) (upR R t (R K))) { o with c:=renK K t o.c } l f:=by
 unfold OwO at h ⊢
 split
 · rename_i hb
   rw [if_pos hb] at h
   obtain ⟨b,cs,f',k1,k2,k3,k4⟩:=h
   exact ⟨b,cs,f',k1,k2,owC_ren _ _ _ ht k3,k4⟩
 · rename_i hb
   rw [if_neg hb] at h
   obtain ⟨v,k1,k2,k3⟩:=h
   exact ⟨v,k1,owC_ren _ _ _ ht k2,by rw [aggQ_ren];exact k3⟩
theorem lk_renEnv (K t:Nat) : ∀(l:List (Nat×AVal)) (u:Nat),lk (renEnv K t l) u=(lk l u).map (renK K t)
 | [],u=>rfl
 | (j,v)::r,u=>by
   simp only [renEnv,lk]
   cases Nat.beq j u with
   | true=>rfl
   | false=>exact lk_renEnv K t r u
theorem lk_renObjs (K t:Nat) : ∀(l:List (Nat×VObj)) (u:Nat),lk (renObjs K t l) u=(lk l u).map fun o=>{ o with c:=renK K t o.c }
 | [],u=>rfl
 | (j,v)::r,u=>by
   simp only [renObjs,lk]
   cases Nat.beq j u with
   | true=>rfl
   | false=>exact lk_renObjs K t r u
mutual
theorem kill_keys {b:AVal→Bool} {t:Nat} (hb : ∀v:AVal,t∈v.keys→b v=true) : ∀(v:AVal),t∉(killV b v).keys
 | .ptr K p off=>by
   simp only [killV]
   cases h:b (.ptr K p off) with
   | true=>simp [AVal.keys]
   | false=>intro hk;simp only [cond_false] at hk;have:=hb _ hk;rw [h] at this;simp at this
 | .ref K p=>by
   simp only [killV]
   cases h:b (.ref K p) with
   | true=>simp [AVal.keys]
   | false=>intro hk;simp only [cond_false] at hk;have:=hb _ hk;rw [h] at this;simp at this
 | .clo g cs=>by
   simp only [killV]
   cases h:b (.clo g cs) with
   | true=>simp [AVal.keys]
   | false=>intro hk;simp only [cond_false] at hk;have:=hb _ hk;rw [h] at this;simp at this
 | .agg cs=>by simp only [killV,AVal.keys];exact kill_keysL hb cs
 | .tup cs=>by simp only [killV,AVal.keys];exact kill_keysL hb cs
 | .und=>by simp [killV,AVal.keys]
 | .bool _=>by simp [killV,AVal.keys]
 | .int _ _=>by simp [killV,AVal.keys]
 | .str _=>by simp [killV,AVal.keys]
 | .nilp=>by simp [killV,AVal.keys]
 | .unk=>by simp [killV,AVal.keys]
 | .nils _=>by simp [killV,AVal.keys]
 | .ro _ _ _=>by simp [killV,AVal.keys]
 | .own _ _=>by simp [killV,AVal.keys]
 | .mp _ _=>by simp [killV,AVal.keys]
 | .rop _ _=>by simp [killV,AVal.keys]
theorem kill_keysL {b:AVal→Bool} {t:Nat} (hb : ∀v:AVal,t∈v.keys→b v=true) : ∀(cs:List AVal),t∉keysL (killVs b cs)
 | []=>by simp [killVs,keysL]
 | c::cs=>by simp only [killVs,keysL,List.mem_append,not_or];exact ⟨kill_keys hb c,kill_keysL hb cs⟩
end
theorem forget_env {t u:Nat} {v:AVal} (h:lk (s.forget [t]).env u=some v):t∉v.keys:=by
 simp only [St.forget,lk_killIn] at h
 cases hu:lk s.env u with
 | none=>rw [hu] at h;simp at h
 | some x=>
   rw [hu] at h;simp only [Option.map_some,Option.some.injEq] at h
   subst h
   exact kill_keys (fun v hv=>by simpa using mem_iff.2 hv) x
theorem forget_obj {t K:Nat} {o:VObj} (h:(s.forget [t]).obj K=some o):t∉o.c.keys∧K≠t:=by
 simp only [St.obj,St.forget,lk_killObjs,lk_delAll] at h
 split at h
 · simp at h
 · rename_i hK
   cases hu:lk s.objs K with
   | none=>rw [hu] at h;simp at h
   | some x=>
     rw [hu] at h;simp only [Option.map_some,Option.some.injEq] at h
     subst h
     exact ⟨kill_keys (fun v hv=>by simpa using mem_iff.2 hv) x.c,by simpa using hK⟩
theorem FRel.rekey {K t:Nat} (h:FRel X s a w) (hKt:K≠t) (_hK:True) (htp:t<passBase):FRel X (s.rekey K t) a w:=by
 unfold St.rekey
 have hf:=h.forget [t]
 have he := @forget_env s t
 have hob := @forget_obj s t
 generalize s.forget [t]=s1 at hf he hob
 cases ho:s1.obj K with
 | none=>simp only [ho];exact h
 | some o=>
   simp only [ho]
   obtain ⟨⟨fz,R,F,h1,h2,h3,h4⟩,h5,h6,h7⟩:=hf
   have hO:({ s1 with env:=renEnv K t s1.env,objs:=renObjs K t (ins (del s1.objs K) t o) }:St).obj=renO s1.obj K t:=by
    funext J
    simp only [St.obj,lk_renObjs,lk_ins,lk_del,renO]
    by_cases hJ:J=t
    · rw [if_pos hJ,if_pos hJ]
      have:lk s1.objs K=some o:=ho
      rw [this]
    · rw [if_neg hJ,if_neg hJ]
      by_cases hJK:J=K
      · rw [if_pos hJK,if_pos hJK];rfl
      · rw [if_neg hJK,if_neg hJK]
   have dom : ∀J u,renO s1.obj K t J=some u → ∃J' u',s1.obj J'=some u'∧J'≠t∧J=(if J'=K then t else J')∧u={ u' with c:=renK K t u'.c }:=by
    intro J u hu
    unfold renO at hu
    by_cases hJ:J=t
    · rw [if_pos hJ,ho] at hu
      simp only [Option.map_some,Option.some.injEq] at hu
      exact ⟨K,o,ho,hKt,by rw [if_pos rfl];exact hJ,hu.symm⟩
    · rw [if_neg hJ] at hu
      by_cases hJK:J=K
      · rw [if_pos hJK] at hu;simp at hu
      · rw [if_neg hJK] at hu
        cases hs:s1.obj J with
        | none=>rw [hs] at hu;simp at hu
        | some u'=>
          rw [hs] at hu
          simp only [Option.map_some,Option.some.injEq] at hu
          exact ⟨J,u',hs,hJ,by rw [if_neg hJK],hu.symm⟩
   have fat : ∀J',J'≠t→upF F t (F K) (if J'=K then t else J')=F J':=fun J' hJ=>by
    unfold upF
    by_cases hJK:J'=K
    · rw [if_pos hJK,if_pos rfl,hJK]
    · rw [if_neg hJK,if_neg hJ]
   refine ⟨⟨fz,upR R t (R K),upF F t (F K),?_,h2,h3,fun J hJ => ?_⟩,h5,h6,h7⟩
   · rw [hO]
     refine ⟨fun u v hv => ?_,fun J u hu => ?_,fun J u hu => ?_,fun J u I v hJI hu hv b => ?_,fun J u hu => ?_,h1.lt⟩
     · simp only [lk_renEnv] at hv
       cases hx:lk s1.env u with
       | none=>rw [hx] at hv;simp at hv
       | some x=>
         rw [hx] at hv;simp only [Option.map_some,Option.some.injEq] at hv
         subst hv
         obtain ⟨k1,k2⟩:=h1.env u x hx
         exact ⟨k1,evV_ren x _ (he hx) k2⟩
     · obtain ⟨J',u',q1,q2,rfl,rfl⟩:=dom J u hu
       rw [renR_at q2,fat J' q2]
       exact owO_ren (hob q1).1 (h1.obj J' u' q1)
     · obtain ⟨J',u',q1,q2,rfl,rfl⟩:=dom J u hu
       rw [fat J' q2];exact h1.one J' u' q1
     · obtain ⟨J',u',q1,q2,rfl,rfl⟩:=dom J u hu
       obtain ⟨I',v',r1,r2,rfl,rfl⟩:=dom I v hv
       rw [fat J' q2,fat I' r2]
       exact h1.dis J' u' I' v' (fun he=>hJI (by rw [he])) q1 r1 b
     · obtain ⟨J',u',q1,q2,rfl,rfl⟩:=dom J u hu
       rw [fat J' q2];exact h1.own J' u' q1
   · rw [←h4 J hJ]
     unfold upR
     rw [if_neg (by omega)]
theorem FRel.nils {t sz:Nat} (h:FRel X s a w) (ht:s.tmp t=.nils sz) (htp:t<passBase):FRel X (((s.forget [t]).setObj t { box:=false,c:=.own sz [] }).set t (.ref t [])) a w:=by
 have hlk:lk s.env t=some (.nils sz):=tmp_some ht (by simp)
 have hf:=h.forget [t]
 have he := @forget_env s t
 have hob := @forget_obj s t
 obtain ⟨⟨fz0,R0,F0,hr0,_⟩,_⟩:=h
 obtain ⟨hlt,hev⟩:=hr0.env t _ hlk
 simp only [EvV] at hev
 generalize s.forget [t]=s1 at hf he hob
 obtain ⟨⟨fz,R,F,h1,h2,h3,h4⟩,h5,h6,h7⟩:=hf
 have hO:((s1.setObj t { box:=false,c:=.own sz [] }).set t (.ref t [])).obj=upO s1.obj t (some { box:=false,c:=.own sz [] }):=by
  funext J
  simp only [St.obj,St.set,St.setObj,lk_ins,upO]
 have hnone:s1.obj t=none:=by
  cases ho:s1.obj t with
  | none=>rfl
  | some o=>exact absurd rfl (hob ho).2
 have hsame : ∀J,J≠t→upO s1.obj t (some { box:=false,c:=.own sz [] }) J=s1.obj J∧upR R t (.val (.slice none 0 0)) J=R J:=fun J hJ=>⟨by simp only [upO,if_neg hJ],by simp only [upR,if_neg hJ]⟩
 have hE:keepE (AVal.dead [] [] []) (EvR w s1.obj R) (EvR w (upO s1.obj t (some { box:=false,c:=.own sz [] })) (upR R t (.val (.slice none 0 0)))):=Stab.keepE ⟨fun J u hu _=>by
  have hJ:J≠t:=fun he=>by rw [he,hnone] at hu;simp at hu
  obtain ⟨e1,e2⟩:=hsame J hJ
  exact ⟨u,by rw [e1];exact hu,e2,fun _=>rfl,fun _ q l hw=>⟨hw,rfl⟩⟩⟩
 refine ⟨⟨fz,upR R t (.val (.slice none 0 0)),upF F t zf,?_,h2,h3,fun J hJ => ?_⟩,h5,h6,h7⟩
 · rw [hO]
   refine ⟨fun u v hv => ?_,fun J u hu => ?_,fun J u hu b => ?_,fun J u I v hJI hu hv b => ?_,fun J u hu b hb => ?_,h1.lt⟩
   · simp only [St.set,St.setObj,lk_ins] at hv
     by_cases hut:u=t
     · subst hut
       rw [if_pos rfl] at hv
       obtain rfl:=Option.some.inj hv
       refine ⟨hlt,?_⟩
       simp only [EvV,EvR,EvP]
       exact ⟨{ box:=false,c:=.own sz [] },.val (.slice none 0 0),by simp [upO],by simp [upR,walk_nil],by rw [hev];rfl,by rw [hev];rfl⟩
     · rw [if_neg hut] at hv
       obtain ⟨k1,k2⟩:=h1.env u v hv
       have:=EvV.kill hE (fun b hb=>⟨hb,rfl⟩) v _ k2
       rw [kill_nil] at this
       exact ⟨k1,this⟩
   · simp only [upO] at hu
     split at hu
     · rename_i hJ;subst hJ
       obtain rfl:=Option.some.inj hu
       simp only [upR,upF,if_true]
       unfold OwO;rw [if_neg (by simp)]
       refine ⟨_,rfl,?_,rfl⟩
       simp only [OwC]
       exact ⟨none,0,rfl,Nat.le_refl _,.inl ⟨rfl,fun _=>rfl⟩⟩
     · rename_i hJ
       simp only [upR,upF,if_neg hJ]
       have:=OwO.kill (k:=AVal.dead [] [] []) hE (fun b hb=>⟨hb,rfl⟩) (fun b _=>rfl) (h1.obj J u hu)
       rw [kill_nil] at this
       exact this
   · simp only [upO] at hu
     split at hu
     · rename_i hJ;subst hJ;simp [upF,zf]
     · rename_i hJ;simp only [upF,if_neg hJ];exact h1.one J u hu b
   · simp only [upF]
     split
     · exact .inl rfl
     · split
       · exact .inr rfl
       · rename_i q1 q2
         simp only [upO,if_neg q1] at hu
         simp only [upO,if_neg q2] at hv
         exact h1.dis J u I v hJI hu hv b
   · simp only [upO] at hu
     split at hu
     · rename_i hJ;subst hJ;simp [upF,zf] at hb
     · rename_i hJ;simp only [upF,if_neg hJ] at hb;exact h1.own J u hu b hb
 · rw [←h4 J hJ];unfold upR;rw [if_neg (by omega)]
end
end Go.VK
namespace Go.VK
open AVal
section
variable {P:Program} {Φ:Ctx} {C:Oracle} {w w':World} {fz al:Nat→Prop} {s:St} {a:Act} {O:OM} {R:RM} {F:Nat→Foot} {X:Fr}
theorem FRel.moved {K t:Nat} (h:FRel X s a w) (hKt:K≠t) (hK:passBase≤K) (htp:t<passBase) (ho:ownAt s K=true):FRel X ((s.rekey K t).setObj K { box:=false,c:=.und }) a w:=by
 have hv : ∃v,X.R0 K=.val v∧v.oneCell'=true:=by
  obtain ⟨⟨fz,R,F,h1,h2,h3,h4⟩,_⟩:=h
  unfold ownAt at ho
  split at ho
  · rename_i sz xs hob
    have:=h1.obj K _ hob
    unfold OwO at this;rw [if_neg (by simp)] at this
    obtain ⟨v,hl,hc,_⟩:=this
    refine ⟨v,by rw [←h4 K hK];exact hl,?_⟩
    simp only [OwC] at hc
    obtain ⟨a,cap,e,_⟩:=hc
    simp only [List.cons.injEq,and_true] at e
    rw [e];rfl
  · simp at ho
 have hsome : ∃o,lk s.objs K=some o:=by
  unfold ownAt at ho
  split at ho
  · rename_i sz xs hob;exact ⟨_,hob⟩
  · simp at ho
 have hn:(s.rekey K t).obj K=none:=by
  unfold St.rekey
  cases hs:(s.forget [t]).obj K with
  | none=>
    obtain ⟨o,hso⟩:=hsome
    simp only [St.obj,St.forget,lk_killObjs,lk_delAll] at hs
    rw [if_neg (by simpa using hKt),hso] at hs
    simp at hs
  | some o=>
    simp only [hs]
    simp only [St.obj,lk_renObjs,lk_ins,lk_del,if_neg hKt,if_true,Option.map_none]
 have hr:=h.rekey hKt trivial htp
 generalize s.rekey K t=s1 at hn hr
 obtain ⟨v,hv1,hv2⟩:=hv
 obtain ⟨⟨fz,R,F,h1,h2,h3,h4⟩,h5,h6,h7⟩:=hr
 have hRK:R K=.val v:=by rw [h4 K hK];exact hv1
 have hO:(s1.setObj K { box:=false,c:=.und }).obj=upO s1.obj K (some { box:=false,c:=.und }):=by
  funext J
  simp only [St.obj,St.setObj,lk_ins,upO]
 have hsame : ∀J,J≠K→upO s1.obj K (some { box:=false,c:=.und }) J=s1.obj J:=fun J hJ=>by simp only [upO,if_neg hJ]
 have hE:keepE (AVal.dead [] [] []) (EvR w s1.obj R) (EvR w (upO s1.obj K (some { box:=false,c:=.und })) R):=Stab.keepE ⟨fun J u hu _=>by
  have hJ:J≠K:=fun he=>by rw [he,hn] at hu;simp at hu
  exact ⟨u,by rw [hsame J hJ];exact hu,rfl,fun _=>rfl,fun _ q l hw=>⟨hw,rfl⟩⟩⟩
 refine ⟨⟨fz,R,upF F K zf,?_,h2,h3,h4⟩,h5,h6,h7⟩
 rw [hO]
 refine ⟨fun u x hx => ?_,fun J u hu => ?_,fun J u hu b => ?_,fun J u I x hJI hu hx b => ?_,fun J u hu b hb => ?_,h1.lt⟩
 · obtain ⟨k1,k2⟩:=h1.env u x hx
   have:=EvV.kill hE (fun b hb=>⟨hb,rfl⟩) x _ k2
   rw [kill_nil] at this
   exact ⟨k1,this⟩
 · simp only [upO] at hu
   split at hu
   · rename_i hJ;subst hJ
     obtain rfl:=Option.some.inj hu
     simp only [upF,if_true]
     unfold OwO;rw [if_neg (by simp)]
     refine ⟨v,hRK,?_,rfl⟩
     simp only [OwC]
     exact ⟨⟨v,rfl,hv2⟩,fun _=>rfl⟩
   · rename_i hJ
     simp only [upF,if_neg hJ]
     have:=OwO.kill (k:=AVal.dead [] [] []) hE (fun b hb=>⟨hb,rfl⟩) (fun b _=>rfl) (h1.obj J u hu)
     rw [kill_nil] at this
     exact this
 · simp only [upO] at hu
   split at hu
   · rename_i hJ;subst hJ;simp [upF,zf]
   · rename_i hJ;simp only [upF,if_neg hJ];exact h1.one J u hu b
 · simp only [upF]
   split
   · exact .inl rfl
   · split
     · exact .inr rfl
     · rename_i q1 q2
       simp only [upO,if_neg q1] at hu
       simp only [upO,if_neg q2] at hx
       exact h1.dis J u I x hJI hu hx b
 · simp only [upO] at hu
   split at hu
   · rename_i hJ;subst hJ;simp [upF,zf] at hb
   · rename_i hJ;simp only [upF,if_neg hJ] at hb;exact h1.own J u hu b hb
theorem FRel.tidy {own:List Nat} : ∀(ts:List Nat) (s:St),FRel X s a w→FRel X (tidy own ts s) a w
 | [],s,h=>h
 | t::r,s,h=>by
   unfold VK.tidy
   split
   · rename_i K hK
     simp only [Bool.cond_eq_ite]
     split
     · exact FRel.tidy r s h
     · rename_i hc
       simp only [Bool.or_eq_true,Nat.ble_eq,not_or] at hc
       obtain ⟨h1,h3⟩:=hc
       have hne:K≠t:=fun he=>h1 (by rw [he];simp)
       split
       · rename_i h2
         rw [Nat.ble_eq] at h2
         split
         · rename_i h4
           simp only [Bool.and_eq_true] at h4
           exact FRel.tidy r _ (h.moved hne h2 (by omega) h4.2)
         · exact FRel.tidy r s h
       rename_i h2
       rw [Nat.ble_eq] at h2
       split
       · split
         · exact FRel.tidy r s h
         · exact FRel.tidy r _ (h.rekey hne trivial (by omega))
       · exact FRel.tidy r s h
   · rename_i sz hs
     simp only [Bool.cond_eq_ite]
     split
     · rename_i hc
       simp only [Bool.and_eq_true,Nat.blt_eq] at hc
       exact FRel.tidy r _ (h.nils hs hc.2)
     · exact FRel.tidy r s h
   · exact FRel.tidy r s h
theorem FRel.env {t:St} (h:FRel X s a w) (he : ∀u v,lk t.env u=some v→lk s.env u=some v) (ho:t.obj=s.obj):FRel X t a w:=by
 obtain ⟨⟨fz,R,F,h1,h2⟩,h3,h4,h5⟩:=h
 exact ⟨⟨fz,R,F,by rw [ho];exact ⟨fun u v hv=>h1.env u v (he u v hv),h1.obj,h1.one,h1.dis,h1.own,h1.lt⟩,h2⟩,h3,h4,h5⟩
theorem FRel.norm {live own:List Nat} {np:Nat} (h:FRel X s a w):FRel X (norm live own np s) a w:=by
 unfold VK.norm
 have h0:FRel X (VK.tidy own live { s with env:=sel live s.env }) a w:=FRel.tidy live _ (h.env (fun u v hv=>(lk_sel _ _ _ _ hv).1) rfl)
 generalize VK.tidy own live { s with env:=sel live s.env }=s1 at h0
 generalize hks:reach s1.objs 3 (dedup (envKeys (sel live s1.env)++(List.range np).map (passBase + ·)) [])=ks
 simp only [hks]
 generalize hM:(sel ks s1.objs).map (·.1)=Mk
 obtain ⟨⟨fz,R,F,h1,h2⟩,h3,h4,h5⟩:=h0
 have hMk : ∀K∈Mk,lk (sel ks s1.objs) K=lk s1.objs K:=fun K hK=>by
  rw [←hM] at hK
  obtain ⟨x,hx,rfl⟩:=List.mem_map.1 hK
  exact lk_sel_mem _ _ _ (sel_in hx).1
 let b:AVal→Bool:=fun v => !(subM Mk v.keys)
 let s2:St:={ env:=killIn b (sel live s1.env),objs:=killObjs b (sel ks s1.objs) }
 have hobj : ∀K,s2.obj K=(lk (sel ks s1.objs) K).map fun o=>{ o with c:=killV b o.c }:=fun K=>lk_killObjs _ _ _
 have hP : ∀{x:AVal} {v:Value},(∀K∈x.keys,K∈Mk)→EvP w s1.obj R x v→EvP w s2.obj R x v:=by
  intro x v hk hx
  cases x <;> simp only [EvP] at hx ⊢
  case nilp=>exact hx
  case ptr K q off=>
   obtain ⟨o,b0,r,ho,hw,hv⟩:=hx
   have:=hMk K (hk K (by simp [AVal.keys]))
   exact ⟨{ o with c:=killV b o.c },b0,r,by rw [hobj,this];simp only [St.obj] at ho;rw [ho];rfl,by rw [walk_kill];exact hw,hv⟩
  case ref K q=>
   obtain ⟨o,l,ho,hw,hv⟩:=hx
   have:=hMk K (hk K (by simp [AVal.keys]))
   exact ⟨{ o with c:=killV b o.c },l,by rw [hobj,this];simp only [St.obj] at ho;rw [ho];rfl,by rw [walk_kill];exact hw,hv⟩
 have hPs : ∀{cs:List AVal} {vs:List Value},(∀K∈keysL cs,K∈Mk)→EvPs w s1.obj R cs vs→EvPs w s2.obj R cs vs:=by
  intro cs
  induction cs with
  | nil=>intro vs _ h;exact h
  | cons c cs ih=>
    intro vs hk h
    simp only [EvPs] at h ⊢
    obtain ⟨v,r,q1,q2,q3⟩:=h
    exact ⟨v,r,q1,hP (fun K hK=>hk K (by simp [keysL,hK])) q2,ih (fun K hK=>hk K (by simp [keysL,hK])) q3⟩
 have hE:keepE b (EvR w s1.obj R) (EvR w s2.obj R):=by
  intro x v hb hx
  have hk : ∀K∈x.keys,K∈Mk:=subM_iff.1 (by simpa [b] using hb)
  cases x <;> simp only [EvR] at hx ⊢
  case clo f cs=>
   obtain ⟨vs,q1,q2⟩:=hx
   exact ⟨vs,q1,hPs (by simpa [AVal.keys] using hk) q2⟩
  all_goals exact hP hk hx
 have hdom : ∀K o,s2.obj K=some o → ∃u,s1.obj K=some u∧o={ u with c:=killV b u.c }:=fun K o ho=>by
  rw [hobj] at ho
  cases hs:lk (sel ks s1.objs) K with
  | none=>rw [hs] at ho;simp at ho
  | some u=>
    rw [hs] at ho
    exact ⟨u,(lk_sel _ _ _ _ hs).1,(Option.some.inj ho).symm⟩
 refine ⟨⟨fz,R,F,⟨fun u v hv => ?_,fun K o ho => ?_,fun K o ho => ?_,fun K o J u hn ho hu => ?_,fun K o ho => ?_,h1.lt⟩,h2⟩,h3,h4,h5⟩
 · have hv':lk (killIn b (sel live s1.env)) u=some v:=hv
   rw [lk_killIn] at hv'
   cases hx:lk (sel live s1.env) u with
   | none=>rw [hx] at hv';simp at hv'
   | some x=>
     rw [hx] at hv';simp only [Option.map_some,Option.some.injEq] at hv'
     subst hv'
     obtain ⟨k1,k2⟩:=h1.env u x (lk_sel _ _ _ _ hx).1
     exact ⟨k1,EvV.kill hE (fun b hb=>⟨hb,rfl⟩) x _ k2⟩
 · obtain ⟨u,hu,rfl⟩:=hdom K o ho
   exact OwO.kill hE (fun b hb=>⟨hb,rfl⟩) (fun _ _=>rfl) (h1.obj K u hu)
 · obtain ⟨u,hu,rfl⟩:=hdom K o ho
   exact h1.one K u hu
 · obtain ⟨u',hu',rfl⟩:=hdom K o ho
   obtain ⟨v',hv',rfl⟩:=hdom J u hu
   exact h1.dis K u' J v' hn hu' hv'
 · obtain ⟨u,hu,rfl⟩:=hdom K o ho
   exact h1.own K u hu
def oE:Out→Exit|.normal=>.normal|.exit id=>.exit id|.ret=>.ret
theorem dstOK_of {nt:Nat} {ops:Array Oper} (h:ops.toList.all (dstB nt)=true):DstOK nt ops:=by
 intro i o ho d hd
 rw [List.all_eq_true] at h
 have:o∈ops.toList:=by
  obtain ⟨h1,rfl⟩:=Array.getElem?_eq_some_iff.1 ho
  simp
 have:=h o this
 simp only [dstB,hd,Nat.blt_eq] at this
 exact this
theorem sub_refl (s:St):Sub s s:=⟨fun _ _ h=>h,fun _ _ h=>h⟩
theorem FRel.normExit {fn:FnI} {np:Nat} {h:LoopHint} {o:Out} (hr:FRel X s a w):FRel X (normExit fn np h o s) a w:=by
 cases o <;> exact hr.norm
theorem vexec_ok (hT:TOK P Φ) (hfns:FnsOK P Φ) {W0:World} (hG:GlOK W0 X.w0 X.al) (hC:CallOK W0 P Φ C) (hmix:P.follows .mixedOrders=true) (hX : ∀b,X.w0.heap.size≤b→X.al b) {fn:FnI} {np n:Nat} : ∀(c:Code) (h:Nat) {R:Type} (s:St) (k:Out→St→Option R) (r:R) (Q:Exit→Act→World→Prop) (a:Act) (w:World),
 vexec Φ C fn np n c h s k=some r→codeB X.nt c=true→FRel X s a w→(∀o s',k o s'=some r → ∀a w,FRel X s' a w→Q (oE o) a w)→c.wp P Q a w:=by
 intro c
 induction c with
 | skip=>intro h R s k r Q a w he _ hr hq;simp only [vexec] at he;exact wp_skip (hq .normal s he a w hr)
 | region id ops draw=>
   intro h R s k r Q a w he hc hr hq
   simp only [vexec] at he
   simp only [codeB] at hc
   exact vregion_ok (calmOK Φ C) hmix (steps_ok hT hfns hG hC hX (dstOK_of hc)) ptr_ok (pairs_ok hT hfns hG hC hX (dstOK_of hc)) (triples_ok hT hfns hG hC hX (dstOK_of hc)) he hr fun s' hk a w h=>hq .normal s' hk a w h
 | seq x y ihx ihy=>
   intro h R s k r Q a w he hc hr hq
   simp only [vexec] at he
   simp only [codeB,Bool.and_eq_true] at hc
   refine wp_seq (ihx h s _ r _ a w he hc.1 hr fun o s' hk a w hr' => ?_)
   cases o with
   | normal=>exact ihy _ s' k r Q a w hk hc.2 hr' hq
   | exit id=>exact hq (.exit id) s' hk a w hr'
   | ret=>exact hq .ret s' hk a w hr'
 | cond c x y ihx ihy=>
   intro h R s k r Q a w he hc hr hq
   simp only [vexec] at he
   simp only [codeB,Bool.and_eq_true] at hc
   split at he
   · rename_i b hb
     obtain ⟨fz,R',F,h1,_⟩:=hr.rel
     have hev:=ev_ok h1 (sub_refl s) hb
     simp only [EvV] at hev
     cases b with
     | true=>exact wp_cond_true hev (ihx h s k r Q a w (by simpa using he) hc.1 hr hq)
     | false=>exact wp_cond_false hev (ihy _ s k r Q a w (by simpa using he) hc.2 hr hq)
   · simp at he
 | block id x ih=>
   intro h R s k r Q a w he hc hr hq
   simp only [vexec] at he
   simp only [codeB] at hc
   refine wp_block (ih h s _ r _ a w he hc hr fun o s' hk a w hr' => ?_)
   cases o with
   | normal=>exact hq .normal s' hk a w hr'
   | ret=>exact hq .ret s' hk a w hr'
   | exit j=>
     simp only [Bool.cond_eq_ite] at hk
     simp only [oE,Exit.inBlock]
     by_cases hj:j=id
     · rw [if_pos hj]
       rw [if_pos (by rw [hj];simp)] at hk
       exact hq .normal s' hk a w hr'
     · rw [if_neg hj]
       rw [if_neg (by rw [beq_ne hj];simp)] at hk
       exact hq (.exit j) s' hk a w hr'
 | loop x ih=>
   intro h R s k r Q a w he hc hr hq
   simp only [vexec] at he
   simp only [codeB] at hc
   cases hi:iter (fun s k=>vexec Φ C fn np n x (h+1) s k) fn np (fn.loops.getD h default) n s with
   | none=>rw [hi] at he;simp at he
   | some r1=>
     obtain ⟨o1,s1⟩:=r1
     rw [hi] at he
     simp only [Option.bind_some] at he
     refine wp_loop_rounds n ?_
     have key : ∀(m:Nat) (s:St) (a:Act) (w:World),iter (fun s k=>vexec Φ C fn np n x (h+1) s k) fn np (fn.loops.getD h default) m s=some (o1,s1)→FRel X s a w→Code.rounds P x Q m a w:=by
      intro m
      induction m with
      | zero=>intro s a w hi _;simp [iter] at hi
      | succ m ihm=>
        intro s a w hi hr
        rw [rounds_succ]
        simp only [iter] at hi
        refine ih (h+1) _ _ _ _ a w hi hc hr.norm fun o s' hk a w hr' => ?_
        cases o with
        | normal=>exact ihm s' a w hk hr'
        | exit id=>
          simp only [Option.some.injEq,Prod.mk.injEq] at hk
          obtain ⟨rfl,rfl⟩:=hk
          exact hq _ _ he a w hr'.normExit
        | ret=>
          simp only [Option.some.injEq,Prod.mk.injEq] at hk
          obtain ⟨rfl,rfl⟩:=hk
          exact hq _ _ he a w hr'.normExit
     exact key n s a w hi hr
 | exit id=>intro h R s k r Q a w he _ hr hq;simp only [vexec] at he;exact wp_exit (hq (.exit id) s he a w hr)
 | scope x ih=>
   intro h R s k r Q a w he hc hr hq
   simp only [vexec] at he
   simp only [codeB] at hc
   refine wp_scope_straight (ih h s k r _ a w he hc hr fun o s' hk a w hr' => ?_)
   have:=hq o s' hk a w hr'
   cases o <;> exact this
 | label l=>intro h R s k r Q a w he _ hr hq;simp only [vexec] at he;exact wp_label (hq .normal s he a w hr)
 | ret=>intro h R s k r Q a w he _ hr hq;simp only [vexec] at he;exact wp_ret (hq .ret s he a w hr)
 | _=>intro h R s k r Q a w he;simp [vexec] at he
end
end Go.VK
namespace Go.VK
open AVal
section
variable {P:Program} {Φ:Ctx} {C:Oracle} {w w':World} {fz al:Nat→Prop} {s:St} {a:Act} {O:OM} {R:RM} {F:Nat→Foot} {M:List Nat}
theorem evP_mem {x:AVal} {v:Value} (h:EvP w O R x v) : ∀K∈x.keys,∃o,O K=some o:=by
 intro K hK
 cases x <;> simp only [EvP] at h <;> simp only [AVal.keys,List.mem_singleton,List.not_mem_nil] at hK
 · obtain ⟨o,_,_,ho,_⟩:=h;subst hK;exact ⟨o,ho⟩
 · obtain ⟨o,_,ho,_⟩:=h;subst hK;exact ⟨o,ho⟩
theorem evPs_mem : ∀{cs:List AVal} {vs:List Value},EvPs w O R cs vs → ∀K∈keysL cs,∃o,O K=some o
 | [],_,_,K,hK=>by simp [keysL] at hK
 | c::cs,vs,h,K,hK=>by
   simp only [EvPs] at h
   obtain ⟨v,r,_,h1,h2⟩:=h
   simp only [keysL,List.mem_append] at hK
   exact hK.elim (evP_mem h1 K) (evPs_mem h2 K)
mutual
theorem evV_mem : ∀(x:AVal) (v:Value),EvV w fz O R x v → ∀K∈x.keys,∃o,O K=some o
 | .und,v,_,K,hK=>by simp [AVal.keys] at hK
 | .bool _,v,_,K,hK=>by simp [AVal.keys] at hK
 | .int _ _,v,_,K,hK=>by simp [AVal.keys] at hK
 | .str _,v,_,K,hK=>by simp [AVal.keys] at hK
 | .nilp,v,_,K,hK=>by simp [AVal.keys] at hK
 | .unk,v,_,K,hK=>by simp [AVal.keys] at hK
 | .nils _,v,_,K,hK=>by simp [AVal.keys] at hK
 | .ro _ _ _,v,_,K,hK=>by simp [AVal.keys] at hK
 | .own _ _,v,_,K,hK=>by simp [AVal.keys] at hK
 | .rop _ _,v,_,K,hK=>by simp [AVal.keys] at hK
 | .ptr J q off,v,h,K,hK=>by simp only [EvV,EvR] at h;exact evP_mem h K hK
 | .ref J q,v,h,K,hK=>by simp only [EvV,EvR] at h;exact evP_mem h K hK
 | .clo f cs,v,h,K,hK=>by
   simp only [EvV,EvR] at h
   obtain ⟨vs,_,h2⟩:=h
   exact evPs_mem h2 K (by simpa [AVal.keys] using hK)
 | .agg cs,v,h,K,hK=>by
   simp only [EvV] at h
   obtain ⟨vs,_,h2⟩:=h
   exact evL_mem cs vs.toList h2 K (by simpa [AVal.keys] using hK)
 | .tup cs,v,h,K,hK=>by
   simp only [EvV] at h
   obtain ⟨vs,_,h2⟩:=h
   exact evL_mem cs vs.toList h2 K (by simpa [AVal.keys] using hK)
theorem evL_mem : ∀(xs:List AVal) (vs:List Value),EvL w fz O R xs vs → ∀K∈keysL xs,∃o,O K=some o
 | [],vs,_,K,hK=>by simp [keysL] at hK
 | x::xs,vs,h,K,hK=>by
   simp only [EvL] at h
   obtain ⟨v,r,_,h1,h2⟩:=h
   simp only [keysL,List.mem_append] at hK
   exact hK.elim (evV_mem x v h1 K) (evL_mem xs r h2 K)
end
def rvSem (tm:Array Value):ResultVar→Sem Value
 | .tmp t=>pure (tm.getD t undef)
 | .cell a t=>do loadVar t (←asAddr (tm.getD a undef))
def RvL (P:Program) (w:World) (tm:Array Value):List ResultVar→List Value→Prop
 | [],vs=>vs=[]
 | r::rs,vs => ∃v vs',vs=v::vs'∧(rvSem tm r).run P w=.ok v w∧RvL P w tm rs vs'
theorem give_ok {O0:OM} {x:AVal} {s s1:St} {v:AVal} {F:Nat→Foot} {G:Foot} {val:Value} (h:s.give x=some (v,s1)) (hk : ∀K∈x.keys,K∈M) (hv:EvV w fz O0 R x val) (hm:Mid M O0 s) (hr:RelO w fz al (EvR w O0 R) (Amb M O0 s) R F G) :
 TakeOK w fz al O0 R M s s1 F G (HandV w fz (EvR w O0 R) v val):=by
 unfold St.give at h
 split at h
 · rename_i K p
   cases hpb:Nat.ble passBase K with
   | true=>rw [hpb] at h;exact dig_ok h (hk K (by simp [AVal.keys])) hv hm hr
   | false=>rw [hpb] at h;exact take_ok _ s v s1 F G val h hk hv hm hr
 · simp at h
 · exact take_ok _ s v s1 F G val h hk hv hm hr
theorem mid_drop {M:List Nat} {O0:OM} {s:St} {K:Nat} (hm:Mid M O0 s):Mid M O0 (s.drop K):=by
 refine ⟨fun J t ht => ?_,fun J t hJ ht hn => ?_,fun J t ht => ?_⟩
 · simp only [St.drop,lk_del] at ht;split at ht
   · simp at ht
   · exact hm.old J t ht
 · simp only [St.drop,List.mem_cons,not_or] at hn
   obtain ⟨q,hq⟩:=hm.there J t hJ ht hn.2
   exact ⟨q,by simp only [St.drop,lk_del,if_neg hn.1];exact hq⟩
 · simp only [St.drop,lk_del] at ht;split at ht
   · simp at ht
   · exact hm.seen J t ht
theorem bxAt_some {s:St} {x c:AVal} {K:Nat} (h:bxAt s x=some (c,K)):x=.ptr K [] none ∧ ∃o,s.obj K=some o∧o.box=true∧o.c=c:=by
 unfold bxAt at h
 split at h
 · split at h
   · simp only [Bool.cond_eq_ite] at h
     split at h
     · split at h
       · rename_i o ho
         split at h
         · rename_i hb
           simp only [Option.some.injEq,Prod.mk.injEq] at h
           obtain ⟨rfl,rfl⟩:=h
           exact ⟨rfl,o,ho,hb,rfl⟩
         · simp at h
       · simp at h
     · simp at h
   · simp at h
 · simp at h
theorem vresults_ok (hT:TOK P Φ) {tm:Array Value} {O0:OM} (hM : ∀K o,O0 K=some o→K∈M) : ∀(res:List ResultVar) (s:St) (vs:List AVal) (s1:St) (F:Nat→Foot) (G:Foot),vresults Φ s res=some (vs,s1)→(∀t v,lk s.env t=some v→EvV w fz O0 R v (tm.getD t undef))→Mid M O0 s→RelO w fz al (EvR w O0 R) (Amb M O0 s) R F G →
 ∃(ws:List Value),RvL P w tm res ws∧TakeOK w fz al O0 R M s s1 F G (HandRL w fz (EvR w O0 R) vs ws)
 | [],s,vs,s1,F,G,h,_,hm,hr=>by
   simp only [vresults,Option.some.injEq,Prod.mk.injEq] at h
   obtain ⟨rfl,rfl⟩:=h
   exact ⟨[],rfl,TakeOK.keep hr hm (by simp [HandRL,zf])⟩
 | .cell a t::r,s,vs,s1,F,G,h,hev,hm,hr=>by
   simp only [vresults] at h
   split at h
   · rename_i K T hp hTt
     split at h
     · rename_i o ho
       simp only [Bool.cond_eq_ite] at h
       split at h
       · rename_i hc
         simp only [Bool.and_eq_true,Nat.beq_eq,decide_eq_true_eq] at hc
         obtain ⟨hbx,hlen,hag⟩:=hc
         have htf:=hT.tf hTt
         cases hv:vresults Φ (s.drop K) r with
         | none=>rw [hv] at h;simp at h
         | some q2=>
           obtain ⟨vs',s2⟩:=q2
           rw [hv] at h
           simp only [Option.some.injEq,Prod.mk.injEq] at h
           obtain ⟨rfl,rfl⟩:=h
           have hlk:=tmp_some hp (by simp)
           have hx:=hev a _ hlk
           simp only [EvV,EvR,EvP] at hx
           have ho':lk s.objs K=some o:=ho
           have hKM:K∈M:=hm.seen K o ho'
           have hA:Amb M O0 s K=some o:=by simp only [Amb,if_pos hKM];exact ho'
           have hob:=hr.obj K o hA
           unfold OwO at hob;rw [if_pos hbx] at hob
           obtain ⟨b,cs,f',hl,hB,hc,hf⟩:=hob
           obtain ⟨u,b1,o1,hu,hwk,hval⟩:=hx
           rw [walk_nil] at hwk
           rw [hl] at hwk
           simp only [Option.some.injEq,Loc.mem.injEq] at hwk
           obtain ⟨rfl,rfl⟩:=hwk
           have hsz:cs.toList.length=o.c.cells.length:=by
            cases hco:o.c with
            | agg xs=>rw [hco] at hc;simp only [OwC] at hc;exact hc.length
            | _=>
              rw [hco] at hc
              obtain ⟨v,e⟩:=OwC.single hc rfl
              rw [e];rfl
           have hcell : ∀j u,cs.toList[j]? = some u→w.cell? ⟨b,0+j,none⟩=some u:=fun j u hj=>by
            rw [hB.r.cell];simpa using hj
           have hmd:Mid M O0 (s.drop K):=mid_drop hm
           have hgr:RelO w fz al (EvR w O0 R) (Amb M O0 (s.drop K)) R F (fun b=>G b+f' b):=by
            rw [amb_drop M O0 s hKM]
            exact (hr.grab hA).lose fun i=>by have:=hf i;omega
           obtain ⟨ws,e1,F2,g2,b1,b2,b3,b4,b5,b6,b7⟩:=vresults_ok hT hM r (s.drop K) vs' s2 F _ hv (fun u x hu=>hev u x hu) hmd hgr
           have key : ∃v,(loadVar t ⟨b,0,none⟩).run P w=.ok v w∧HandV w fz (EvR w O0 R) o.c v f':=by
            cases ha:T.agg with
            | true=>
              rw [ha] at hag
              cases hco:o.c with
              | agg xs=>
                rw [hco] at hc
                simp only [OwC] at hc
                refine ⟨.agg cs,?_,cs,rfl,hc⟩
                have hrun:=run_cells (P:=P) (w:=w) (b:=b) (q:=0) (us:=cs.toList) hcell
                have e:cs.toList.length=T.cts.length:=by rw [hsz,hlen]
                simp only [loadVar,Sem.run_bind,Sem.run_pure,Result.andThen_ok,htf.isAgg,ha,if_true,htf.size,←e,hrun]
              | _=>rw [hco] at hag;simp [aggQ] at hag
            | false=>
              rw [ha] at hag
              obtain ⟨v,e⟩:=OwC.single hc hag
              refine ⟨v,?_,HandV.one hag (by rw [←e];exact hc)⟩
              have h0:=hcell 0 v (by rw [e];rfl)
              simp only [loadVar,Sem.run_bind,Result.andThen_ok,htf.isAgg,ha,Bool.false_eq_true,if_false,run_load_cell h0]
           obtain ⟨v,hv1,hv2⟩:=key
           refine ⟨v::ws,⟨v,ws,rfl,?_,e1⟩,F2,fun b=>f' b+g2 b,?_,⟨v,ws,f',g2,rfl,hv2.toR,b2,fun _=>rfl⟩,b3,b4,b5,b6,b7⟩
           · simp only [rvSem,Sem.run_bind,hval,asAddr,Sem.run_pure,Result.andThen_ok]
             simpa using hv1
           · have e:(fun b=>G b+(f' b+g2 b))=(fun b=>G b+f' b+g2 b):=by funext b;omega
             rw [e];exact b1
       · simp at h
     · simp at h
   · simp at h
 | .tmp t::r,s,vs,s1,F,G,h,hev,hm,hr=>by
   simp only [vresults] at h
   cases hbx:bxAt s (s.tmp t) with
   | some q=>
     obtain ⟨c,K⟩:=q
     rw [hbx] at h
     simp only at h
     cases hv:vresults Φ (s.drop K) r with
     | none=>rw [hv] at h;simp at h
     | some q2=>
       obtain ⟨vs',s2⟩:=q2
       rw [hv] at h
       simp only [Option.some.injEq,Prod.mk.injEq] at h
       obtain ⟨rfl,rfl⟩:=h
       obtain ⟨hp,o,ho,hob1,rfl⟩:=bxAt_some hbx
       have hlk:=tmp_some hp (by simp)
       have hx:=hev t _ hlk
       simp only [EvV,EvR,EvP] at hx
       have ho':lk s.objs K=some o:=ho
       have hKM:K∈M:=hm.seen K o ho'
       have hA:Amb M O0 s K=some o:=by simp only [Amb,if_pos hKM];exact ho'
       have hob:=hr.obj K o hA
       unfold OwO at hob;rw [if_pos hob1] at hob
       obtain ⟨b,cs,f',hl,hB,hc,hf⟩:=hob
       obtain ⟨u,b1,o1,hu,hwk,hval⟩:=hx
       rw [walk_nil] at hwk
       rw [hl] at hwk
       simp only [Option.some.injEq,Loc.mem.injEq] at hwk
       obtain ⟨rfl,rfl⟩:=hwk
       have hgr:RelO w fz al (EvR w O0 R) (Amb M O0 (s.drop K)) R F (fun b=>G b+F K b):=by
        rw [amb_drop M O0 s hKM]
        exact hr.grab hA
       obtain ⟨ws,e1,F2,g2,b1,b2,b3,b4,b5,b6,b7⟩:=vresults_ok hT hM r (s.drop K) vs' s2 F _ hv (fun u x hu=>hev u x hu) (mid_drop hm) hgr
       refine ⟨tm.getD t undef::ws,⟨_,ws,rfl,rfl,e1⟩,F2,fun b=>F K b+g2 b,?_,⟨_,_,F K,g2,rfl,⟨b,cs,f',by rw [hval];rfl,hB,hc,hf⟩,b2,fun _=>rfl⟩,b3,b4,b5,b6,b7⟩
       have e:(fun b=>G b+(F K b+g2 b))=(fun b=>G b+F K b+g2 b):=by funext b;omega
       rw [e];exact b1
   | none=>
   rw [hbx] at h
   simp only at h
   cases ht:s.give (s.tmp t) with
   | none=>rw [ht] at h;simp at h
   | some q=>
     obtain ⟨v,s'⟩:=q
     rw [ht] at h
     simp only at h
     cases hv:vresults Φ s' r with
     | none=>rw [hv] at h;simp at h
     | some q2=>
       obtain ⟨vs',s2⟩:=q2
       rw [hv] at h
       simp only [Option.some.injEq,Prod.mk.injEq] at h
       obtain ⟨rfl,rfl⟩:=h
       have hne:s.tmp t≠.und:=fun he=>by rw [he] at ht;simp [St.give] at ht
       have hlk:=tmp_some rfl hne
       have hx:=hev t _ hlk
       obtain ⟨F1,g1,a1,a2,a3,a4,a5,a6,a7⟩:=give_ok ht (fun K hK=>by obtain ⟨o,ho⟩:=evV_mem _ _ hx K hK;exact hM K o ho) hx hm hr
       obtain ⟨ws,e1,F2,g2,b1,b2,b3,b4,b5,b6,b7⟩:=vresults_ok hT hM r s' vs' s2 F1 _ hv (fun u x hu=>hev u x (by rw [←a6];exact hu)) a3 a1
       refine ⟨tm.getD t undef::ws,⟨_,ws,rfl,rfl,e1⟩,F2,fun b=>g1 b+g2 b,?_,⟨_,_,g1,g2,rfl,a2.toR,b2,fun _=>rfl⟩,b3,fun K hK=>(b4 K hK).trans (a4 K hK),fun K b=>Nat.le_trans (b5 K b) (a5 K b),b6.trans a6,b7.trans a7⟩
       have e:(fun b=>G b+(g1 b+g2 b))=(fun b=>G b+g1 b+g2 b):=by funext b;omega
       rw [e];exact b1
theorem results_eq (g:Func) (tm:Array Value):results g tm=(do let vs ←g.results.mapM (rvSem tm);pure (if h:vs.size=1 then vs[0] else .tuple vs)):=rfl
theorem results_run {g:Func} {res:List ResultVar} {ws:List Value} (h:g.results=res.toArray) (hl:res.length≤4) {tm:Array Value} (hr:RvL P w tm res ws):(results g tm).run P w=.ok (retVal ws) w:=by
 rw [results_eq,h]
 match res,hl with
 | [],_=>
   simp only [RvL] at hr
   subst hr
   simp [retVal]
 | [r1],_=>
   simp only [RvL] at hr
   obtain ⟨v1,_,rfl,h1,rfl⟩:=hr
   simp [retVal,h1]
 | [r1,r2],_=>
   simp only [RvL] at hr
   obtain ⟨v1,_,rfl,h1,v2,_,rfl,h2,rfl⟩:=hr
   simp [retVal,h1,h2]
 | [r1,r2,r3],_=>
   simp only [RvL] at hr
   obtain ⟨v1,_,rfl,h1,v2,_,rfl,h2,v3,_,rfl,h3,rfl⟩:=hr
   simp [retVal,h1,h2,h3]
 | [r1,r2,r3,r4],_=>
   simp only [RvL] at hr
   obtain ⟨v1,_,rfl,h1,v2,_,rfl,h2,v3,_,rfl,h3,v4,_,rfl,h4,rfl⟩:=hr
   simp [retVal,h1,h2,h3,h4]
mutual
theorem pure_asRo : ∀(x:AVal),pureV x=true→pureV (asRo x)=true
 | .agg cs,h=>by simp only [pureV] at h;simp only [asRo,pureV];exact pure_asRoL cs h
 | .own _ _,_=>rfl
 | .bool _,_=>rfl
 | .int _ _,_=>rfl
 | .str _,_=>rfl
 | .nilp,_=>rfl
 | .unk,_=>rfl
 | .nils _,_=>rfl
 | .ro _ _ _,_=>rfl
 | .und,_=>rfl
 | .ptr _ _ _,h=>by simp [pureV] at h
 | .rop _ _,h=>by simp [pureV] at h
 | .ref _ _,h=>by simp [pureV] at h
 | .tup _,h=>by simp [pureV] at h
 | .clo _ _,h=>by simp [pureV] at h
theorem pure_asRoL : ∀(xs:List AVal),pureVs xs=true→pureVs (asRoL xs)=true
 | [],_=>rfl
 | x::xs,h=>by
   simp only [pureVs,Bool.and_eq_true] at h
   simp only [asRoL,pureVs,pure_asRo x h.1,pure_asRoL xs h.2,Bool.and_self]
end
theorem handV_pure {E E':Env2} {v:AVal} {val:Value} {g:Foot} (hp:pureV v=true) (h:HandV w fz E v val g):HandV w fz E' v val g:=by
 cases v with
 | agg cs=>obtain ⟨ws,h1,h2⟩:=h;exact ⟨ws,h1,pures_E _ _ _ (by simpa only [pureV] using hp) h2⟩
 | _=>
   have h':OwC w fz E _ [val] g:=h
   exact pure_E _ _ _ hp h'
theorem handRL_pure {E E':Env2} : ∀{vs:List AVal} {ws:List Value} {g:Foot},pureRs vs=true→HandRL w fz E vs ws g→HandRL w fz E' vs ws g
 | [],ws,g,_,h=>h
 | v::vs,ws,g,hp,h=>by
   simp only [pureRs,Bool.and_eq_true] at hp
   simp only [HandRL] at h ⊢
   obtain ⟨val,r,g1,g2,h0,h1,h2,h3⟩:=h
   refine ⟨val,r,g1,g2,h0,?_,handRL_pure hp.2 h2,h3⟩
   by_cases hn : ∃cs,v=.tup cs
   · obtain ⟨cs,rfl⟩:=hn
     match cs,h1 with
     | [c],h1=>
       obtain ⟨b,ks,f',k1,k2,k3,k4⟩:=h1
       exact ⟨b,ks,f',k1,k2,pure_E _ _ _ (by simpa only [pureR] using hp.1) k3,k4⟩
   · have hp1:pureV v=true:=by
      have:=hp.1
      cases v <;> first|exact this|exact absurd ⟨_,rfl⟩ hn
     exact (handV_pure hp1 (h1.toV fun cs he=>hn ⟨cs,he⟩)).toR
theorem pure_asRoR : ∀(xs:List AVal),pureRs xs=true→pureRs (asRoL xs)=true
 | [],_=>rfl
 | x::xs,h=>by
   simp only [pureRs,Bool.and_eq_true] at h
   simp only [asRoL,pureRs,pure_asRoR xs h.2,Bool.and_true]
   by_cases hn : ∃cs,x=.tup cs
   · obtain ⟨cs,rfl⟩:=hn
     match cs,h.1 with
     | [c],h1=>simp only [pureR] at h1;simp only [asRo,asRoL,pureR,pure_asRo c h1]
   · have hp1:pureV x=true:=by
      have:=h.1
      cases x <;> first|exact this|exact absurd ⟨_,rfl⟩ hn
     have h2:=pure_asRo x hp1
     cases x <;> first|exact absurd ⟨_,rfl⟩ hn|exact h2
theorem handRL_ro : ∀{vs:List AVal} {ws:List Value} {g:Foot},HandRL w fz NoE vs ws g → ∃gk gf:Foot,(∀b,g b=gk b+gf b) ∧ ∀fz':Nat→Prop,(∀b,fz b→fz' b)→(∀b,0<gf b→fz' b)→HandRL w fz' NoE (asRoL vs) ws gk
 | [],ws,g,h=>by
   simp only [HandRL] at h
   exact ⟨zf,zf,fun b=>h.2 b,fun fz' _ _=>by simp only [asRoL,HandRL];exact ⟨h.1,fun _=>rfl⟩⟩
 | v::vs,ws,g,h=>by
   simp only [HandRL] at h
   obtain ⟨val,r,g1,g2,h0,h1,h2,h3⟩:=h
   obtain ⟨gk,gf,k1,k2⟩:=handRL_ro h2
   by_cases hn : ∃cs,v=.tup cs
   · obtain ⟨cs,rfl⟩:=hn
     match cs,h1 with
     | [c],h1=>
       obtain ⟨b,ks,f',j1,j2,j3,j4⟩:=h1
       refine ⟨fun i=>(if i=b then 1 else 0)+gk i,fun i=>f' i+gf i,fun i=>by rw [h3,j4,k1];show _=((if i=b then 1 else 0)+gk i)+(f' i+gf i);omega,fun fz' hf hg => ?_⟩
       simp only [asRoL,HandRL]
       refine ⟨val,r,fun i=>if i=b then 1 else 0,gk,h0,?_,k2 fz' hf (fun i hi=>hg i (by show 0<f' i+gf i;omega)),fun _=>rfl⟩
       simp only [asRo,asRoL]
       exact ⟨b,ks,zf,j1,j2,ROC.own _ _ (asRo_ok hf _ _ _ j3 (fun i hi=>hg i (by show 0<f' i+gf i;omega))),fun i=>by simp [zf]⟩
   · have h1v:=h1.toV fun cs he=>hn ⟨cs,he⟩
     refine ⟨gk,fun i=>g1 i+gf i,fun i=>by rw [h3,k1];show _=gk i+(g1 i+gf i);omega,fun fz' hf hg => ?_⟩
     simp only [asRoL,HandRL]
     refine ⟨val,r,zf,gk,h0,?_,k2 fz' hf (fun i hi=>hg i (by show 0<g1 i+gf i;omega)),fun i=>by simp [zf]⟩
     have hg1 : ∀b,0<g1 b→fz' b:=fun b hb=>hg b (by show 0<g1 b+gf b;omega)
     cases v with
     | tup cs=>exact absurd ⟨_,rfl⟩ hn
     | agg cs=>
       obtain ⟨ws,e1,e2⟩:=h1v
       exact ⟨ws,e1,ROL.own _ _ (asRoL_ok hf _ _ _ e2 hg1)⟩
     | own sz xs=>
       have h':OwC w fz NoE (.own sz xs) [val] g1:=h1v
       exact ROC.own _ _ (asRo_ok hf _ _ _ h' hg1)
     | mp kc xs=>
       have h':OwC w fz NoE (.mp kc xs) [val] g1:=h1v
       exact ROC.own _ _ (asRo_ok hf _ _ _ h' hg1)
     | _=>
       have h':OwC w fz NoE _ [val] g1:=h1v
       exact ROC.own _ _ (asRo_ok hf _ _ _ h' hg1)
theorem handRL_lt {E:Env2} : ∀{vs:List AVal} {ws:List Value} {g:Foot},HandRL w fz E vs ws g → ∀b,0<g b→b<w.heap.size
 | [],ws,g,h,b,hb=>by simp only [HandRL] at h;have:=h.2 b;omega
 | v::vs,ws,g,h,b,hb=>by
   simp only [HandRL] at h
   obtain ⟨val,r,g1,g2,h0,h1,h2,h3⟩:=h
   by_cases h4:0<g1 b
   · by_cases hn : ∃cs,v=.tup cs
     · obtain ⟨cs,rfl⟩:=hn
       match cs,h1 with
       | [c],h1=>
         obtain ⟨b',ks,f',j1,j2,j3,j4⟩:=h1
         by_cases hb':b=b'
         · subst hb'
           obtain ⟨e,fr,hh,_⟩:=j2
           exact (Array.getElem?_eq_some_iff.1 hh).1
         · rw [j4,if_neg hb'] at h4
           exact OwC.lt _ _ _ _ j3 b (by omega)
     · exact OwC.lt _ _ _ _ (h1.toV fun cs he=>hn ⟨cs,he⟩).own.1 b h4
   · exact handRL_lt h2 b (by have:=h3 b;omega)
theorem vcall_ok {W0:World} (hT:TOK P Φ) (hfns:FnsOK P Φ) (hN:NatOK W0 P Φ) (hmix:P.follows .mixedOrders=true) : ∀(k:Nat),CallOK W0 P Φ (vcall Φ k)
 | 0=>by intro f args objs rs os fn h;simp [vcall] at h
 | k+1=>by
   intro f args objs rs os fn h hfn w fz al vals R F hE hG
   simp only [vcall,hfn] at h
   cases hnat:lk Φ.nats f with
   | some n=>rw [hnat] at h;exact hN f n hnat args objs rs os h w fz al vals R F hE hG
   | none=>
   rw [hnat] at h
   simp only at h
   cases hle:Nat.ble args.length fn.nt with
   | false=>rw [hle] at h;simp at h
   | true=>
     rw [hle] at h
     simp only [Bool.not_true,cond_false] at h
     obtain ⟨g,hg1,hg2,hg3,hg4,hg5,hg6,hg7⟩:=(hfns f fn hfn).it
     refine calls_of_wp hg1 hg2 ?_
     rw [hg5]
     have hlen:vals.length=args.length:=by
      have:=EvL.length (s:={ env:=[],objs:=numFrom passBase objs }) hE.args
      simpa using this
     simp only [Nat.ble_eq] at hle
     let X:Fr:={ w0:=w,fz0:=fz,al:=al,R0:=R,nt:=fn.nt }
     let s0:St:={ env:=numFrom 0 (args.map shift),objs:=numFrom passBase objs }
     have hs0:s0.obj=objsM objs:=rfl
     have htm : ∀t,t<vals.length→(vals.toArray++Array.replicate (fn.nt-vals.toArray.size) undef).getD t undef=vals.getD t undef:=fun t ht=>by
      simp [Array.getElem?_append,ht,List.getD_eq_getElem?_getD]
     have hr0:FRel X s0 { tmps:=vals.toArray++Array.replicate (fn.nt-vals.toArray.size) undef,defers:=[] } w:=by
      refine ⟨⟨fz,R,F,⟨fun t v hv => ?_,hE.ro.obj,hE.ro.one,hE.ro.dis,hE.ro.own,hE.ro.lt⟩,fun _ hb=>hb,fun _ hb=>.inl hb,fun _ _=>rfl⟩,Keep.refl w al,rfl,by simp [X];omega⟩
      have hv':lk (numFrom 0 (args.map shift)) t=some v:=hv
      rw [lk_numFrom] at hv'
      simp only [Nat.zero_le,if_true,Nat.sub_zero] at hv'
      have htl:t<(args.map shift).length:=(List.getElem?_eq_some_iff.1 hv').1
      obtain ⟨u,hu,hev⟩:=EvL.at (s:=s0) (i:=t) hE.args htl
      have hget:(args.map shift).getD t .und=v:=by rw [List.getD_eq_getElem?_getD,hv'];rfl
      rw [hget] at hev
      have htv:t<vals.length:=by rw [hlen];simpa using htl
      refine ⟨by simp;omega,?_⟩
      rw [htm t htv,List.getD_eq_getElem?_getD,hu]
      exact hev
     refine vexec_ok (X:=X) hT hfns hG (vcall_ok hT hfns hN hmix k) hmix hE.al fn.body 0 s0 _ (rs,os) _ _ w h hg6 hr0 fun o s hk a w' hr => ?_
     have main:vret Φ fn objs.length s=some (rs,os)→a.defers=[] ∧ ∃v,(results g a.tmps).run P w'=.ok v w' ∧ ∃rvs fz' F' gg,Ending.returned v=Ending.returned (retVal rvs)∧Back w fz al objs R rs os rvs w' fz' F' gg:=by
      intro hk
      obtain ⟨fzN,Rs,Fs,h1,h2,h3,h4⟩:=hr.rel
      unfold vret at hk
      cases hvr:vresults Φ s fn.res with
      | none=>rw [hvr] at hk;simp at hk
      | some q=>
        obtain ⟨vs,s1⟩:=q
        rw [hvr] at hk
        simp only at hk
        change (match objsOf s1 (keysN objs.length) (keysN objs.length) with|some os=>_|none=>none)=_ at hk
        cases hos:objsOf s1 (keysN objs.length) (keysN objs.length) with
        | none=>rw [hos] at hk;simp at hk
        | some os1=>
          rw [hos] at hk
          simp only [Bool.cond_eq_ite] at hk
          split at hk
          · rename_i hpure
            simp only [Option.some.injEq,Prod.mk.injEq] at hk
            obtain ⟨hrs,rfl⟩:=hk
            have hM : ∀K o,s.obj K=some o→K∈s.objs.map (·.1):=fun K o ho=>lk_mem ho
            have hA:Amb (s.objs.map (·.1)) s.obj s=s.obj:=by
             funext K;simp only [Amb];split <;> rfl
            have hm:Mid (s.objs.map (·.1)) s.obj s:=⟨fun K o ho=>⟨o,ho,rfl,.refl _,.refl _ _ _⟩,fun K u _ hu _=>⟨u,hu⟩,fun K o ho=>lk_mem ho⟩
            obtain ⟨ws,hws,F1,gg,b1,b2,b3,b4,b5,b6,b7⟩:=vresults_ok hT (tm:=a.tmps) hM fn.res s vs s1 Fs zf hvr (fun t v hv=>(h1.env t v hv).2) hm (by rw [hA];exact h1.toO)
            have e0:(fun b=>zf b+gg b)=gg:=by funext b;simp [zf]
            rw [e0] at b1
            have hrun:=results_run (P:=P) (w:=w') (g:=g) hg4 hg7 hws
            refine ⟨hr.defers,_,hrun,ws,?_⟩
            obtain ⟨o1,o2⟩:=objsOf_spec _ os1 hos
            have hkey : ∀K o,objsM os1 K=some o→passBase≤K∧s1.obj K=some o∧tieV (keysN objs.length) (valKs s1.obj (keysN objs.length)) o.c=true:=fun K o ho=>by
             by_cases hK:K<passBase
             · rw [objsM_lt _ hK] at ho;simp at ho
             · obtain ⟨i,rfl⟩ : ∃i,K=passBase+i:=⟨K-passBase,by omega⟩
               rw [objsM_at] at ho
               have hi:i<objs.length:=by
                have:=(List.getElem?_eq_some_iff.1 ho).1
                rw [o1] at this;simpa [keysN] using this
               obtain ⟨o',q1,q2,q3⟩:=o2 i (passBase+i) (by simp [keysN,hi])
               have e:renVO (toN (keysN objs.length)) o'=o':=by simp only [renVO,renC_id toN_keysN (fun K hK=>toN_keysN K (valKs_mem.1 hK).1) q3]
               rw [e,ho] at q1;obtain rfl:=Option.some.inj q1
               exact ⟨by omega,q2,q3⟩
            have hAmb : ∀K o,objsM os1 K=some o→Amb (s.objs.map (·.1)) s.obj s1 K=some o:=fun K o ho=>by
             obtain ⟨_,q2,_⟩:=hkey K o ho
             simp only [Amb,if_pos (b3.seen K o q2)];exact q2
            have hsub:RelO w' fzN al (EvR w' (objsM os1) R) (objsM os1) R F1 gg:=by
             refine ⟨fun K o ho => ?_,fun K o ho=>b1.one K o (hAmb K o ho),fun K o J u hn ho hu=>b1.dis K o J u hn (hAmb K o ho) (hAmb J u hu),fun K o ho=>b1.own K o (hAmb K o ho),b1.g1,fun K o ho=>b1.gd K o (hAmb K o ho),b1.go,b1.lt⟩
             obtain ⟨q1,_,q3⟩:=hkey K o ho
             have:=b1.obj K o (hAmb K o ho)
             rw [h4 K q1] at this
             have ht:=OwO.tie (g:=fun K=>K) (O':=objsM os1) (R':=R) (w':=w') (fz1:=fzN) (fun J hJ v off hv=>by
              obtain ⟨i,hi,rfl⟩:=keysN_mem.1 hJ
              simp only [EvP] at hv ⊢
              obtain ⟨u,b,q,_,hw,rfl⟩:=hv
              rw [walk_nil,h4 _ (by omega)] at hw
              have hil:i<os1.length:=by rw [o1];simpa [keysN] using hi
              exact ⟨os1[i],b,q,by rw [objsM_at];exact List.getElem?_eq_getElem hil,by rw [walk_nil];exact hw,rfl⟩) (fun J hJ v hv=>by
              obtain ⟨i,hi,rfl⟩:=keysN_mem.1 (valKs_mem.1 hJ).1
              simp only [EvP] at hv ⊢
              obtain ⟨u,l,_,hw,hh,h1v⟩:=hv
              rw [walk_nil,h4 _ (by omega)] at hw
              have hil:i<os1.length:=by rw [o1];simpa [keysN] using hi
              exact ⟨os1[i],l,by rw [objsM_at];exact List.getElem?_eq_getElem hil,by rw [walk_nil];exact hw,hh,h1v⟩) q3 (fun b hb=>hb) this
             have e:renVO (fun K=>K) o=o:=by simp only [renVO,renC_id (fun _ _=>rfl) (fun _ _=>rfl) q3]
             rw [e] at ht;exact ht
            have hol:os1.length=objs.length:=by rw [o1];simp [keysN]
            have hvq:valKs (objsM os1) (keysN objs.length)=valKs s1.obj (keysN objs.length):=by
             refine List.filter_congr fun K hK => ?_
             obtain ⟨i,hi,rfl⟩:=keysN_mem.1 hK
             have hil:i<os1.length:=by rw [hol];exact hi
             have hoi:objsM os1 (passBase+i)=some os1[i]:=by rw [objsM_at];exact List.getElem?_eq_getElem hil
             rw [hoi,(hkey _ _ hoi).2.1]
            have hnk : ∀o∈os1,tieV (keysN os1.length) (valKs (objsM os1) (keysN os1.length)) o.c=true:=fun o ho=>by
             obtain ⟨i,hi⟩:=List.getElem?_of_mem ho
             rw [hol,hvq]
             exact (hkey (passBase+i) o (by rw [objsM_at];exact hi)).2.2
            have hres:=handRL_pure (E':=NoE) hpure b2
            cases hfrz:fn.frz with
            | false=>
              rw [hfrz] at hrs
              simp only [Bool.false_eq_true,if_false] at hrs
              subst hrs
              exact ⟨fzN,F1,gg,rfl,hsub,hres,hpure,h2,h3,hr.keep,hol,hnk⟩
            | true=>
              rw [hfrz] at hrs
              simp only [if_true] at hrs
              subst hrs
              have hlt:=handRL_lt hres
              obtain ⟨gk,gf,k1,k2⟩:=handRL_ro hres
              have e1:(fun b=>gk b+gf b)=gg:=by funext b;rw [k1]
              have hch:=RelO.chill (G:=gk) (g:=gf) (by rw [e1];exact hsub) (fun b hb=>hlt b (by rw [k1];omega))
              refine ⟨fun b=>fzN b∨0<gf b,F1,gk,rfl,hch,k2 _ (fun b hb=>.inl hb) (fun b hb=>.inr hb),pure_asRoR vs hpure,fun b hb=>.inl (h2 b hb),fun b hb => ?_,hr.keep,hol,hnk⟩
              rcases hb with hb|hb
              · exact h3 b hb
              · exact .inr (b1.go b (by rw [k1];omega)).1
          · simp at hk
     cases o with
     | normal=>
       obtain ⟨q1,v,q2,q3⟩:=main hk
       exact ⟨q1,v,q2,q3⟩
     | ret=>
       obtain ⟨q1,v,q2,q3⟩:=main hk
       exact ⟨q1,v,q2,q3⟩
     | exit id=>simp at hk
end
end Go.VK
namespace Go.VK
open AVal
inductive Fits (Φ:Ctx):Nat→AVal→Prop
 | bool {t:Nat} {T:TI} {b:Bool}:Φ.ti t=some T→T.agg=false→T.cts=[.bool]→Fits Φ t (.bool b)
 | int {t:Nat} {T:TI} {k:IntKind} {n:Int}:Φ.ti t=some T→T.agg=false→T.cts=[.int k]→(Lit.int k n).wf=true→Fits Φ t (.int k n)
 | str {t:Nat} {T:TI} {s:ByteArray}:Φ.ti t=some T→T.agg=false→T.cts=[.str]→s.size≤maxLen→Fits Φ t (.str s)
 | slice {t e sz:Nat} {T:TI} {xs:List AVal}:Φ.ti t=some T→T.agg=false→T.cts=[.slice sz]→T.elem=some e→xs.length≤maxLen→(∀x∈xs,Fits Φ e x)→Fits Φ t (.ro false sz xs)
 | struct {t:Nat} {T:TI} {fs:List AVal}:Φ.ti t=some T→T.agg=true→fs.length=T.offs.length→(∀(i off u:Nat) (x:AVal),T.offs[i]? = some (off,u)→fs[i]? = some x→Fits Φ u x)→Fits Φ t (.agg (fs.flatMap AVal.cells))
def contig (Φ:Ctx):Nat→List (Nat×Nat)→Option Nat
 | a,[]=>some a
 | a,(k,u)::r=>match Φ.ti u with|some U=>bif Nat.beq k a then contig Φ (a+U.cts.length) r else none|none=>none
def datB (Φ:Ctx) (ds:List Nat) (t:Nat):Bool:=
 match Φ.ti t with
 | some T=>bif T.agg then !T.offs.isEmpty&&(T.offs.all (fun x=>mem x.2 ds)&&decide (contig Φ 0 T.offs=some T.cts.length))
    else (match T.cts with|[.bool]=>true|[.int _]=>true|[.str]=>true|[.slice sz]=>Nat.blt 0 sz&&(match T.elem with|some e=>mem e ds|none=>false)|_=>false)
 | none=>false
section
variable {P:Program} {Φ:Ctx} {w w':World} {fz al:Nat→Prop} {H:Type} {enc:TypeId×Value→H} {spare:Nat→Bool}
theorem ROL.append : ∀{xs ys:List AVal} {c d:List Value},ROL w fz xs c→ROL w fz ys d→ROL w fz (xs++ys) (c++d)
 | [],ys,c,d,h,k=>by simp only [ROL] at h;subst h;exact k
 | x::xs,ys,c,d,h,k=>by
   simp only [ROL] at h
   obtain ⟨v,r,rfl,h1,h2⟩:=h
   simp only [List.cons_append,ROL]
   exact ⟨v,_,rfl,h1,h2.append k⟩
theorem ROC.cells {x:AVal} {c:List Value} (h:ROC w fz x c):ROL w fz x.cells c:=by
 have hw:=h.width
 cases x with
 | agg cs=>simp only [ROC] at h;exact h
 | _=>
   obtain ⟨v,rfl⟩:=List.length_eq_one_iff.1 hw
   simp only [AVal.cells,ROL]
   exact ⟨v,[],rfl,h,rfl⟩
theorem cells_len_eq {x:AVal} {c:List Value} (h:ROC w fz x c):x.cells.length=c.length:=by
 rw [h.width];cases x <;> rfl
theorem cellsOf_eq {t:Nat} {T:TI} (h:TF P t T):P.cellsOf t=T.cts.length:=by
 obtain ⟨i,d,z,h1,h2,h3,_⟩:=h.info
 simp [Program.cellsOf,h1,h3]
theorem trod_fits (hT:TOK P Φ) {ds:List Nat} (hds : ∀t∈ds,datB Φ ds t=true) (hfz : ∀b,b<w.heap.size→fz b) : ∀(fuel t:Nat) (cs:List Value) (d:DataW H) (ps:List MemPlace),t∈ds→DataW.trod enc P w 0 spare true fuel t cs=some (d,ps) → ∃x,Fits Φ t x∧ROC w fz x cs
 | 0,t,cs,d,ps,_,h=>by simp [DataW.trod] at h
 | fuel+1,t,cs,d,ps,ht,h=>by
   have hd:=hds t ht
   unfold datB at hd
   cases hTt:Φ.ti t with
   | none=>rw [hTt] at hd;simp at hd
   | some T=>
     rw [hTt] at hd
     simp only [Bool.cond_eq_ite] at hd
     have htf:=hT.tf hTt
     split at hd
     · rename_i hag
       simp only [Bool.and_eq_true,Bool.not_eq_true',List.all_eq_true,decide_eq_true_eq] at hd
       obtain ⟨hne,hall,hcon⟩:=hd
       obtain ⟨i,dd,z,g1,g2,g3,g4,g5,g6,g7⟩:=htf.info
       cases dd with
       | struct fs=>
         simp only [descOK,Bool.and_eq_true] at g7
         unfold DataW.trod at h
         rw [g2] at h
         simp only at h
         split at h
         · rename_i hlen
           cases hm:fs.toList.mapM (fun f=>DataW.trod enc P w 0 spare true fuel f.type ((cs.drop f.offset).take (P.cellsOf f.type))) with
           | none=>rw [hm] at h;simp at h
           | some rs=>
             have key : ∀(offs:List (Nat×Nat)) (fl:List Field) (rs:List (DataW H×List MemPlace)) (acc e:Nat),offsOK P offs fl=true→(∀x∈offs,mem x.2 ds=true)→contig Φ acc offs=some e→e≤cs.length→fl.mapM (fun f=>DataW.trod enc P w 0 spare true fuel f.type ((cs.drop f.offset).take (P.cellsOf f.type)))=some rs →
              acc≤e ∧ ∃xs:List AVal,xs.length=offs.length∧(∀(i off u:Nat) (x:AVal),offs[i]? = some (off,u)→xs[i]? = some x→Fits Φ u x)∧ROL w fz (xs.flatMap AVal.cells) ((cs.drop acc).take (e-acc)):=by
              intro offs
              induction offs with
              | nil=>
                intro fl rs acc e ho _ hc _ _
                simp only [contig,Option.some.injEq] at hc
                subst hc
                exact ⟨Nat.le_refl _,[],rfl,by simp,by simp [ROL]⟩
              | cons p offs ih=>
                intro fl rs acc e ho hal hc hle hmm
                obtain ⟨k,u⟩:=p
                cases fl with
                | nil=>simp [offsOK] at ho
                | cons f fl=>
                  simp only [offsOK,Bool.and_eq_true] at ho
                  obtain ⟨ho1,ho2,_,ho4⟩:=ho
                  have ho1:=Nat.eq_of_beq_eq_true ho1
                  have ho2:=Nat.eq_of_beq_eq_true ho2
                  simp only [contig] at hc
                  cases hU:Φ.ti u with
                  | none=>rw [hU] at hc;simp at hc
                  | some U=>
                    rw [hU] at hc
                    simp only [Bool.cond_eq_ite] at hc
                    split at hc
                    · rename_i hk
                      have hk:=Nat.eq_of_beq_eq_true hk
                      simp only [List.mapM_cons] at hmm
                      cases h1:DataW.trod enc P w 0 spare true fuel f.type ((cs.drop f.offset).take (P.cellsOf f.type)) with
                      | none=>rw [h1] at hmm;simp at hmm
                      | some r1=>
                        cases h2:fl.mapM (fun f=>DataW.trod enc P w 0 spare true fuel f.type ((cs.drop f.offset).take (P.cellsOf f.type))) with
                        | none=>rw [h1,h2] at hmm;simp at hmm
                        | some rs'=>
                          obtain ⟨q1,xs,q2,q3,q4⟩:=ih fl rs' _ e ho4 (fun x hx=>hal x (by simp [hx])) hc hle h2
                          have hud:u∈ds:=mem_iff.1 (hal (k,u) (by simp))
                          rw [ho1,ho2,hk,cellsOf_eq (hT.tf hU)] at h1
                          obtain ⟨x,hx1,hx2⟩:=trod_fits hT hds hfz fuel u _ r1.1 r1.2 hud h1
                          refine ⟨by omega,x::xs,by simp [q2],fun i off u' y hi hy => ?_,?_⟩
                          · cases i with
                            | zero=>simp at hi hy;obtain ⟨_,rfl⟩:=hi;subst hy;exact hx1
                            | succ i=>exact q3 i off u' y (by simpa using hi) (by simpa using hy)
                          · simp only [List.flatMap_cons]
                            have e1:(cs.drop acc).take (e-acc)=(cs.drop acc).take U.cts.length++(cs.drop (acc+U.cts.length)).take (e-(acc+U.cts.length)):=by
                             have e2:e-acc=U.cts.length+(e-(acc+U.cts.length)):=by omega
                             rw [e2,List.take_add,List.drop_drop]
                            rw [e1]
                            exact hx2.cells.append q4
                    · simp at hc
             have hcl:cs.length=T.cts.length:=by rw [hlen,cellsOf_eq htf]
             obtain ⟨_,xs,q2,q3,q4⟩:=key T.offs fs.toList rs 0 T.cts.length g7.2.1 hall hcon (by omega) hm
             refine ⟨.agg (xs.flatMap AVal.cells),.struct hTt hag q2 q3,?_⟩
             simp only [ROC]
             have e1:(cs.drop 0).take (T.cts.length-0)=cs:=by rw [List.drop_zero,Nat.sub_zero];exact List.take_of_length_le (by omega)
             rw [e1] at q4;exact q4
         · simp at h
       | array _ _=>
         simp only [descOK,Bool.and_eq_true,List.isEmpty_iff] at g7
         rw [g7.2.1.1] at hne;simp at hne
       | _=>simp [descOK,hag] at g7
     · rename_i hag
       have hag:T.agg=false:=by simpa using hag
       split at hd
       · rename_i hc
         have hu:=htf.bool hag hc
         unfold DataW.trod at h
         rw [hu] at h
         split at h <;> simp_all
         rename_i b
         exact ⟨.bool b,.bool hTt hag hc,by simp only [ROC]⟩
       · rename_i k hc
         have hu:=htf.int hag hc
         unfold DataW.trod at h
         rw [hu] at h
         split at h <;> simp_all
         exact ⟨_,.int hTt hag hc h.1.2,by simp only [ROC]⟩
       · rename_i hc
         have hu:=htf.str hag hc
         unfold DataW.trod at h
         rw [hu] at h
         split at h <;> simp_all
         exact ⟨_,.str hTt hag hc h.1,by simp only [ROC]⟩
       · rename_i sz hc
         simp only [Bool.and_eq_true,Nat.blt_eq] at hd
         obtain ⟨e,i,hu,hel,hi,hsz⟩:=htf.slice hag hc
         rw [hel] at hd
         have hed:e∈ds:=mem_iff.1 hd.2
         have hce:P.cellsOf e=sz:=by simp [Program.cellsOf,hi,hsz]
         unfold DataW.trod at h
         rw [hu] at h
         split at h
         any_goals (exfalso;simp_all;done)
         · exact ⟨.ro false sz [],.slice hTt hag hc hel (by simp) (by simp),by simp only [ROC];exact ⟨none,0,rfl,Nat.le_refl _,fun h=>by simp at h,fun h=>absurd rfl h⟩⟩
         · rename_i e' ad len cap he'
           simp only [Option.some.injEq,TypeDesc.slice.injEq] at he'
           subst he'
           dsimp only at h
           split at h
           · rename_i hcnd
             obtain ⟨_,hlc,hcm⟩:=hcnd
             cases hm:(List.range len).mapM (fun i=>(w.cells? 0 (ad.add (i*P.cellsOf e)) (P.cellsOf e)).bind (DataW.trod enc P w 0 spare true fuel e)) with
             | none=>rw [hm] at h;simp at h
             | some elems=>
               by_cases hl0:len=0
               · subst hl0
                 exact ⟨.ro false sz [],.slice hTt hag hc hel (by simp) (by simp),by simp only [ROC];exact ⟨some ad,cap,rfl,hlc,fun h=>by simp at h,fun h=>absurd rfl h⟩⟩
               · have hel2:=mapM_some_length hm
                 rw [List.length_range] at hel2
                 have hat : ∀i,i<len → ∃(ci:List Value) (r:DataW H×List MemPlace),ci.length=sz∧(∀j,j<sz→w.cell? ((ad.add (i*sz)).add j)=ci[j]?)∧DataW.trod enc P w 0 spare true fuel e ci=some r:=fun i hi=>by
                  have h1:=mapM_some_get hm i i (by simp [hi])
                  rw [List.getElem?_eq_getElem (by omega)] at h1
                  cases hcs:w.cells? 0 (ad.add (i*P.cellsOf e)) (P.cellsOf e) with
                  | none=>rw [hcs] at h1;simp at h1
                  | some ci=>
                    rw [hcs] at h1
                    rw [hce] at hcs
                    unfold World.cells? at hcs
                    rw [if_pos (Nat.zero_le _)] at hcs
                    have h2:=mapM_some_length hcs
                    rw [List.length_range] at h2
                    exact ⟨ci,elems[i],h2,fun j hj=>mapM_some_get hcs j j (by simp [hj]),h1⟩
                 obtain ⟨c0,r0,e1,e2,_⟩:=hat 0 (by omega)
                 have hc0:=e2 0 (by omega)
                 rw [List.getElem?_eq_getElem (by omega)] at hc0
                 obtain ⟨b,off,spot⟩:=ad
                 have hspot:spot=none:=by
                  cases spot with
                  | none=>rfl
                  | some z=>
                    exfalso
                    simp only [World.cell?,Addr.add] at hc0
                    split at hc0 <;> simp at hc0
                 subst hspot
                 simp only [add_at] at hc0 e2 hat
                 obtain ⟨cells,el,fr,hheap⟩ : ∃cells el fr,w.heap[b]? = some (.cells cells el fr):=by
                  unfold World.cell? at hc0
                  split at hc0
                  · rename_i c' e' f' hh;exact ⟨c',e',f',hh⟩
                  · simp at hc0
                 have hB:RBlk w b cells:=⟨el,fr,hheap⟩
                 have hci : ∀i (hi:i<len),∃x,Fits Φ e x∧ROC w fz x ((cells.toList.drop (off+i*sz)).take sz)∧off+i*sz+sz≤cells.size:=fun i hi=>by
                  obtain ⟨ci,r,k1,k2,k3⟩:=hat i hi
                  have hcell : ∀j,j<sz→cells[off+i*sz+j]? = ci[j]? := fun j hj=>by rw [←k2 j hj,hB.cell]
                  have hsz2:off+i*sz+sz≤cells.size:=by
                   have:=hcell (sz-1) (by omega)
                   rw [List.getElem?_eq_getElem (by omega)] at this
                   have:=(Array.getElem?_eq_some_iff.1 this).1
                   omega
                  have hcc:ci=(cells.toList.drop (off+i*sz)).take sz:=by
                   apply List.ext_getElem?
                   intro j
                   by_cases hj:j<sz
                   · rw [List.getElem?_take,if_pos hj,List.getElem?_drop,←hcell j hj];simp
                   · rw [List.getElem?_eq_none (by omega),List.getElem?_eq_none (by simp;omega)]
                  obtain ⟨x,hx1,hx2⟩:=trod_fits hT hds hfz fuel e ci r.1 r.2 hed k3
                  exact ⟨x,hx1,by rw [←hcc];exact hx2,hsz2⟩
                 have build : ∀n k,k+n=len → ∃xs:List AVal,xs.length=n∧(∀x∈xs,Fits Φ e x)∧ROX w fz xs sz (cells.toList.drop (off+k*sz)):=by
                  intro n
                  induction n with
                  | zero=>intro k _;exact ⟨[],rfl,by simp,by simp [ROX]⟩
                  | succ n ih=>
                    intro k hk
                    obtain ⟨xs,q1,q2,q3⟩:=ih (k+1) (by omega)
                    obtain ⟨x,r1,r2,r3⟩:=hci k (by omega)
                    refine ⟨x::xs,by simp [q1],fun y hy => ?_,?_⟩
                    · rcases List.mem_cons.1 hy with rfl|hy
                      · exact r1
                      · exact q2 y hy
                    · simp only [ROX]
                      refine ⟨(cells.toList.drop (off+k*sz)).take sz,cells.toList.drop (off+(k+1)*sz),?_,by simp;omega,r2,q3⟩
                      have e3:off+(k+1)*sz=off+k*sz+sz:=by rw [Nat.add_mul];omega
                      have h9:=List.take_append_drop sz (cells.toList.drop (off+k*sz))
                      rw [List.drop_drop] at h9
                      rw [e3];exact h9.symm
                 obtain ⟨xs,q1,q2,q3⟩:=build len 0 (by omega)
                 refine ⟨.ro false sz xs,.slice hTt hag hc hel (by omega) q2,?_⟩
                 simp only [ROC]
                 rw [q1]
                 refine ⟨some ⟨b,off,none⟩,cap,rfl,hlc,fun h=>by simp at h,fun _=>⟨hd.1,b,off,cells,rfl,hfz b hB.lt,hB,?_⟩⟩
                 simpa using q3
           · simp at h
       · simp at hd
end
end Go.VK
namespace Go.VK
open AVal Go.RowKit
section
variable {P:Program} {Φ:Ctx} {w:World} {fz al:Nat→Prop} {H:Type} {enc:TypeId×Value→H} {O:OM} {R:RM}
def flatQ:AVal→Bool
 | .bool _=>true|.int _ _=>true|.str _=>true|.ro _ _ _=>true
 | _=>false
theorem Fits.flat {t:Nat} {x:AVal} (h:Fits Φ t x) : ∀c∈x.cells,flatQ c=true:=by
 induction h with
 | bool=>intro c hc;simp [AVal.cells] at hc;subst hc;rfl
 | int=>intro c hc;simp [AVal.cells] at hc;subst hc;rfl
 | str=>intro c hc;simp [AVal.cells] at hc;subst hc;rfl
 | slice=>intro c hc;simp [AVal.cells] at hc;subst hc;rfl
 | struct h1 h2 h3 h4 ih=>
   intro c hc
   simp only [AVal.cells,List.mem_flatMap] at hc
   obtain ⟨x,hx,hc⟩:=hc
   obtain ⟨i,hi⟩:=List.getElem?_of_mem hx
   have hlt:i<_:=(List.getElem?_eq_some_iff.1 hi).1
   rw [h3] at hlt
   exact ih i _ _ x (List.getElem?_eq_getElem hlt) hi c hc
theorem evV_flat {x:AVal} {v:Value} (h:flatQ x=true) (hr:ROC w fz x [v]):EvV w fz O R x v:=by
 cases x <;> simp [flatQ] at h <;> simp only [EvV,ROC] at hr ⊢
 all_goals first
  | exact hr
  | simpa using hr
theorem evL_flat : ∀{cs:List AVal} {vs:List Value},(∀c∈cs,flatQ c=true)→ROL w fz cs vs→EvL w fz O R cs vs
 | [],vs,_,h=>by simpa only [ROL,EvL] using h
 | c::cs,vs,hf,h=>by
   simp only [ROL] at h
   obtain ⟨v,r,rfl,h1,h2⟩:=h
   simp only [EvL]
   exact ⟨v,r,rfl,evV_flat (hf c (by simp)) h1,evL_flat (fun d hd=>hf d (by simp [hd])) h2⟩
theorem shift1_flatQ {x:AVal} (h:flatQ x=true):shift1 x=x:=by cases x <;> simp [flatQ] at h <;> rfl
theorem shift_fits {t:Nat} {x:AVal} (h:Fits Φ t x):shift x=x:=by
 have hf:=h.flat
 cases h with
 | struct=>
   simp only [shift,AVal.agg.injEq]
   simp only [AVal.cells] at hf
   rw [List.map_congr_left (fun c hc=>shift1_flatQ (hf c hc)),List.map_id']
 | _=>rfl
inductive FitsL (Φ:Ctx):List Nat→List AVal→Prop
 | nil:FitsL Φ [] []
 | cons {t:Nat} {ts:List Nat} {x:AVal} {xs:List AVal}:Fits Φ t x→FitsL Φ ts xs→FitsL Φ (t::ts) (x::xs)
theorem evV_fits {b0 t:Nat} {T:TI} {r:Reach} {x:AVal} {v:Value} (htf:TF P t T) (hT:Φ.ti t=some T) (hx:Fits Φ t x) (hv:Value.okWide P w r b0 t v) (h:ROC w fz x v.cells.toList):EvV w fz O R x v:=by
 have hf:=hx.flat
 cases hx with
 | struct h1 h2=>
   rw [h1] at hT;cases hT
   obtain ⟨i,d,z,g1,g2,g3,g4,g5,g6,g7⟩:=htf.info
   have : ∃cs,v=.agg cs:=by
    cases d with
    | struct fs=>unfold Value.okWide at hv;rw [g2] at hv;obtain ⟨cs,h,_⟩:=hv;exact ⟨cs,h⟩
    | array _ _=>unfold Value.okWide at hv;rw [g2] at hv;obtain ⟨cs,h,_⟩:=hv;exact ⟨cs,h⟩
    | _=>simp [descOK,h2] at g7
   obtain ⟨cs,rfl⟩:=this
   simp only [EvV]
   refine ⟨cs,rfl,evL_flat hf ?_⟩
   simpa only [ROC,Value.cells] using h
 | bool h1 h2 h3=>
   rw [h1] at hT;cases hT
   obtain ⟨b,rfl⟩:=Go.WideShapes.okWide_bool (htf.bool h2 h3) hv
   exact evV_flat rfl (by simpa only [Value.cells] using h)
 | int h1 h2 h3=>
   rw [h1] at hT;cases hT
   obtain ⟨b,rfl⟩:=Go.WideShapes.okWide_int (htf.int h2 h3) hv
   exact evV_flat rfl (by simpa only [Value.cells] using h)
 | str h1 h2 h3=>
   rw [h1] at hT;cases hT
   obtain ⟨b,rfl⟩:=Go.WideShapes.okWide_string (htf.str h2 h3) hv
   exact evV_flat rfl (by simpa only [Value.cells] using h)
 | slice h1 h2 h3=>
   rw [h1] at hT;cases hT
   obtain ⟨e,i,hu,_⟩:=htf.slice h2 h3
   obtain ⟨a,n,m,rfl⟩:=Go.WideShapes.okWide_slice hu hv
   exact evV_flat rfl (by simpa only [Value.cells] using h)
def FnsL (P:Program):List (Nat×FnI)→Prop
 | []=>True
 | (f,fn)::r=>FnF P f fn∧FnsL P r
theorem fnsL_ok : ∀{l:List (Nat×FnI)},FnsL P l → ∀f fn,lk l f=some fn→FnF P f fn
 | [],_,f,fn,h=>by simp [lk] at h
 | (g,gn)::r,hl,f,fn,h=>by
   simp only [lk] at h
   cases hb:Nat.beq g f with
   | true=>rw [hb] at h;simp only [cond_true,Option.some.injEq] at h;subst h;rw [←Nat.eq_of_beq_eq_true hb];exact hl.1
   | false=>rw [hb] at h;exact fnsL_ok hl.2 f fn h
theorem tok_of (h:(Φ.tab.all fun x=>tokB P x.1 x.2)=true) (hx : ∀f,Φ.idxB=some f→ExtIdx P f) (he:(Φ.eqs.all fun x=>eqTB P x.1 x.2)=true) (hk:(Φ.keys.all fun x=>keyTB P x.1 (keyCs x.2))=true):TOK P Φ:=⟨fun t T ht=>lk_all (f:=tokB P) h t T ht,hx,fun t cs ht=>lk_all (f:=eqTB P) he t cs ht,fun t m ht=>lk_all (f:=fun t m=>keyTB P t (keyCs m)) hk t m ht⟩
theorem natOK_nil {W0:World} (h:Φ.nats=[]):NatOK W0 P Φ:=fun f n hf=>by rw [h] at hf;simp [lk] at hf
theorem row_calls {b0:Nat} (hT:TOK P Φ) (hF:FnsOK P Φ) (hm:P.follows .mixedOrders=true) {f:Nat} {fn:FnI} (hfn:lk Φ.fns f=some fn) {ds:List Nat} (hds:(ds.all fun t=>datB Φ ds t)=true) {ts:List Nat} (hts:(ts.all fun t=>mem t ds)=true)
 (law : ∀xs,FitsL Φ ts xs → ∃k,vcall Φ k f xs []=some ([.bool true],[]))
 (W:World) (hN:NatOK W P Φ) {args:Array Value} {da:List (DataW H)} {p:List MemPlace} (hA:DataW.TrodAll enc P W 0 (fun _=>true) true ts args.toList da p)
 (hval : ∀(j:Nat) t v,ts[j]? = some t→args[j]? = some v→Value.okWide P W .any b0 t v) :
 Calls P f args W fun e W'=>e=.returned (.bool true)∧Below W.heap.size W W':=by
 have hds' : ∀t∈ds,datB Φ ds t=true:=List.all_eq_true.1 hds
 have key : ∀(ts:List Nat) (vs:List Value) (da:List (DataW H)) (p:List MemPlace),(ts.all fun t=>mem t ds)=true→DataW.TrodAll enc P W 0 (fun _=>true) true ts vs da p→(∀(j:Nat) t v,ts[j]? = some t→vs[j]? = some v→Value.okWide P W .any b0 t v) →
  ∃xs,FitsL Φ ts xs∧EvL W (fun b=>b<W.heap.size) (objsM []) (fun _=>.mem 0 0) (xs.map shift) vs:=by
  intro ts
  induction ts with
  | nil=>
    intro vs da p _ hA _
    obtain ⟨rfl,rfl,rfl⟩:=Go.ChangeShapes.trodAll_nil hA
    exact ⟨[],.nil,by simp [EvL]⟩
  | cons t ts ih=>
    intro vs da p hts hA hval
    simp only [List.all_cons,Bool.and_eq_true] at hts
    obtain ⟨v,vs',d,ds',p1,q1,rfl,rfl,rfl,ht,hr⟩:=Go.ChangeShapes.trodAll_cons hA
    obtain ⟨xs,h1,h2⟩:=ih vs' ds' q1 hts.2 hr (fun j t v h h'=>hval (j+1) t v (by simpa using h) (by simpa using h'))
    obtain ⟨fuel,hf⟩:=ht
    have htd:t∈ds:=mem_iff.1 hts.1
    obtain ⟨x,hx1,hx2⟩:=trod_fits hT hds' (fun b h=>h) fuel t _ d p1 htd hf
    have hd:=hds' t htd
    unfold datB at hd
    cases hTt:Φ.ti t with
    | none=>rw [hTt] at hd;simp at hd
    | some T=>
      refine ⟨x::xs,.cons hx1 h1,?_⟩
      simp only [List.map_cons,EvL]
      refine ⟨v,vs',rfl,?_,h2⟩
      rw [shift_fits hx1]
      exact evV_fits (hT.tf hTt) hTt hx1 (hval 0 t v rfl rfl) hx2
 obtain ⟨xs,h1,h2⟩:=key ts args.toList da p hts hA (fun j t v h h'=>hval j t v h (by simpa using h'))
 obtain ⟨k,hk⟩:=law xs h1
 have hE:Entry W (fun b=>b<W.heap.size) (fun b=>W.heap.size≤b) xs [] args.toList (fun _=>.mem 0 0) (fun _=>zf):=
  { args:=h2
    ro:={ obj:=fun K o h=>by simp [objsM,numFrom,lk] at h
          one:=fun K o h=>by simp [objsM,numFrom,lk] at h
          dis:=fun K o J u _ h=>by simp [objsM,numFrom,lk] at h
          own:=fun K o h=>by simp [objsM,numFrom,lk] at h
          g1:=fun b=>by simp [zf]
          gd:=fun K o h=>by simp [objsM,numFrom,lk] at h
          go:=fun b h=>by simp [zf] at h
          lt:=fun b h=>h }
    al:=fun b h=>h
    nk:=fun o h=>by simp at h }
 have hc:=vcall_ok hT hF hN hm k f xs [] [.bool true] [] fn hk hfn W _ _ args.toList _ _ hE ⟨Nat.le_refl _,fun b hb=>⟨by simp;omega,rfl⟩⟩
 rw [show args.toList.toArray=args by simp] at hc
 refine hc.mono ?_
 rintro e W' ⟨rvs,fz',F',g,rfl,hB⟩
 have hres:=hB.res
 refine ⟨?_,⟨hB.keep.os,hB.keep.tape,hB.keep.output,hB.keep.size,fun b hb=>hB.keep.block b hb (by omega)⟩⟩
 simp only [HandRL] at hres
 obtain ⟨v,r,g1,g2,rfl,h3,⟨rfl,_⟩,_⟩:=hres
 simp only [HandR,HandV,OwC] at h3
 obtain ⟨h3,_⟩:=h3
 simp only [List.cons.injEq,and_true] at h3
 subst h3
 rfl
end
end Go.VK
namespace Go.VK
open AVal
inductive Sy (R:Type) where
 | ret (r:R)
 | fail (why:Nat)
 | if_ (b:Bool) (t e:Sy R)
 | call (f:Nat) (args:List AVal) (objs:List VObj) (k:List AVal×List VObj→Sy R)
 | loop (h:Nat) (s:St) (k:Out×St→Sy R)
 | next (s:St) (k:Out×St→Sy R)
def Sy.y {R:Type} (t:Sy R):Sy R:=.if_ true t (.fail 8)
def Sy.den {R:Type} (C:Oracle) (L:Nat→St→Option (Out×St)) (I:St→Option (Out×St)):Sy R→Option R
 | .ret r=>some r
 | .fail _=>none
 | .if_ b t e=>bif b then t.den C L I else e.den C L I
 | .call f a o k=>(C f a o).bind fun r=>(k r).den C L I
 | .loop h s k=>(L h s).bind fun r=>(k r).den C L I
 | .next s k=>(I s).bind fun r=>(k r).den C L I
def xeffK {R:Type} (Φ:Ctx) (p:St) (o:Oper) (k:Eff→Sy R):Sy R:=
 match veff Φ p o with
 | some e=>k e
 | none=>
   match o.op with
   | .call c=>
     (match vsend Φ p c with
      | none=>.fail 1
      | some x=>.if_ x.cond (.call x.f x.args x.objs fun r=>
         match callEff Φ o x r.1 r.2 with
         | some e=>k e
         | none=>.fail 2) (.fail 3))
   | _=>.fail 4
def xrunOp {R:Type} (Φ:Ctx) (o:Oper) (i:Nat) (s:St) (k:St→Done→Sy R):Sy R:=
 match o.op with
 | .extract (.tmp t) j=>
   (match s.tmp t,o.dst with
    | .tup vs,some d=>bif Nat.blt j vs.length&&noUnd (vs.getD j .und) then k (s.set d (vs.getD j .und)) { i,calm:=true,made:=[],ment:=(vs.getD j .und).keys,hit:=false } else .fail 5
    | _,_=>.fail 6)
 | _=>
   match lookQ Φ s o.op,o.dst with
   | some q,some d=>(match calm Φ s o d with
     | some e=>.if_ e.cond (bif e.o.isNone then k (s.set d e.v) { i,calm:=true,made:=[],ment:=[],hit:=false,more:={ vals:=e.v::q.1,rd:=q.2 } } else .fail 17) (.fail 8)
     | none=>.fail 4)
   | _,_=>
   let p:=s.part o.op
   let made:=keysMade Φ o
   let M:=made++p.objs.map (·.1)
   xeffK Φ p o fun e=>
    .if_ e.cond (bif okEff p M e&&((o.dst.isNone||e.v.isSome)&&made.all fun K=>Nat.blt K passBase&&(s.obj K).isNone) then
     k (s.join M o.dst e) { i,calm:=e.calm&&(subM made e.ka&&(subM made (kk e.ki)&&subM made e.kr)),made,ment:=M,hit:=hitIn (AVal.dead e.ka e.ki e.kr) M e.calm s.objs s.objs,more:=moreOf Φ p o e }
     else .fail 7) (.fail 8)
def xskipOp {R:Type} (o:Oper) (i:Nat) (s:St) (k:St→Done→Sy R):Sy R:=
 k (match o.dst with|some d=>s.set d (.tup [])|none=>s) { i,calm:=true,made:=[],ment:=[],hit:=false }
def xop {R:Type} (Φ:Ctx) (ops:Array Oper) (gs:List Nat) (o:Oper) (i:Nat) (s:St) (k:List Nat→St→Done→Sy R):Sy R:=
 match o.guard with
 | none=>xrunOp Φ o i s (k gs)
 | some (j,want)=>
   match dstOf ops j with
   | none=>.fail 9
   | some g=>
     match s.tmp g with
     | .bool b=>bif mem g gs then
        (bif b then (bif want then xrunOp Φ o i (s.set g (.bool true)) (k gs) else xskipOp o i (s.set g (.bool true)) (k gs))
         else (bif want then xskipOp o i (s.set g (.bool false)) (k gs) else xrunOp Φ o i (s.set g (.bool false)) (k gs)))
       else .if_ b (bif want then xrunOp Φ o i (s.set g (.bool true)) (k (g::gs)) else xskipOp o i (s.set g (.bool true)) (k (g::gs)))
                  (bif want then xskipOp o i (s.set g (.bool false)) (k (g::gs)) else xrunOp Φ o i (s.set g (.bool false)) (k (g::gs)))
     | .tup []=>xskipOp o i s (k gs)
     | _=>.fail 10
def xops {R:Type} (Φ:Ctx) (ops:Array Oper):List Oper→Nat→List Nat→St→List Done→(St→List Done→Sy R)→Sy R
 | [],_,_,s,ds,k=>k s ds
 | o::r,i,gs,s,ds,k=>xop Φ ops gs o i s fun gs s' d=>xops Φ ops r (i+1) gs s' (d::ds) k
def xregion {R:Type} (Φ:Ctx) (ops:Array Oper) (draw:Bool) (s:St) (k:St→Sy R):Sy R:=
 xops Φ ops ops.toList 0 [] (s.forget (makers Φ ops.toList)) [] fun s' ds=>
  bif draw then (bif edgesOk ops.toList 0&&orderOk ops (ancs ops.toList []) ds then k s' else .fail 11) else k s'
def xexec (Φ:Ctx) (fn:FnI) (np:Nat):Code→Nat→{R:Type}→St→(Out→St→Sy R)→Sy R
 | .skip,_,_,s,k=>k .normal s
 | .region _ ops draw,_,_,s,k=>xregion Φ ops draw s (k .normal)
 | .seq a b,h,_,s,k=>xexec Φ fn np a h s fun o s'=>match o with
   | .normal=>xexec Φ fn np b (h+loops a) s' k
   | o=>k o s'
 | .cond c a b,h,_,s,k=>match s.ev Φ 0 c with
   | some (.bool x)=>.if_ x (xexec Φ fn np a h s k) (xexec Φ fn np b (h+loops a) s k)
   | _=>.fail 12
 | .block id a,h,_,s,k=>xexec Φ fn np a h s fun o s'=>match o with
   | .exit j=>bif Nat.beq j id then k .normal s' else k (.exit j) s'
   | o=>k o s'
 | .loop _,h,_,s,k=>.loop h (norm (fn.loops.getD h default).live (fn.loops.getD h default).own np s) fun r=>k r.1 r.2
 | .exit id,_,_,s,k=>k (.exit id) s
 | .scope a,h,_,s,k=>xexec Φ fn np a h s k
 | .label _,_,_,s,k=>k .normal s
 | .ret,_,_,s,k=>k .ret s
 | _,_,_,_,_=>.fail 13
def xbody (Φ:Ctx) (fn:FnI) (np:Nat) (a:Code) (h:Nat) (s:St):Sy (Out×St):=
 xexec Φ fn np a (h+1) s fun o s'=>match o with
  | .normal=>.next (norm (fn.loops.getD h default).live (fn.loops.getD h default).own np s') .ret
  | o=>.ret (o,normExit fn np (fn.loops.getD h default) o s')
def xcall (Φ:Ctx) (fn:FnI) (args:List AVal) (objs:List VObj):Sy (List AVal×List VObj):=
 bif Nat.ble args.length fn.nt then (xexec Φ fn objs.length fn.body 0 { env:=numFrom 0 (args.map shift),objs:=numFrom passBase objs }
  fun o s=>match o with
   | .exit _=>.fail 14
   | _=>match vret Φ fn objs.length s with|some r=>.ret r|none=>.fail 15) else .fail 16
section
variable {Φ:Ctx} {C:Oracle} {L:Nat→St→Option (Out×St)} {I:St→Option (Out×St)} {R:Type}
theorem den_effK (p:St) (o:Oper) (k:Eff→Sy R):(xeffK Φ p o k).den C L I=veffK Φ C p o fun e=>(k e).den C L I:=by
 unfold xeffK veffK
 cases veff Φ p o with
 | some e=>rfl
 | none=>
   cases o.op with
   | call c=>
     dsimp only
     cases vsend Φ p c with
     | none=>rfl
     | some x=>
       simp only [Sy.den]
       cases x.cond with
       | false=>rfl
       | true=>
         simp only [cond_true]
         congr 1
         funext r
         obtain ⟨rs,os⟩:=r
         dsimp only
         cases callEff Φ o x rs os <;> rfl
   | _=>rfl
theorem xrunOp_plain (o:Oper) (i:Nat) (s:St) (k:St→Done→Sy R) (hx:isExtract o.op=false) (hp:plainQ Φ s o=false):xrunOp Φ o i s k=xeffK Φ (s.part o.op) o fun e=>
 .if_ e.cond (bif okEff (s.part o.op) (mof Φ s o) e&&((o.dst.isNone||e.v.isSome)&&(keysMade Φ o).all fun K=>Nat.blt K passBase&&(s.obj K).isNone) then
  k (s.join (mof Φ s o) o.dst e) (doneOf i s (keysMade Φ o) (mof Φ s o) e (moreOf Φ (s.part o.op) o e)) else .fail 7) (.fail 8):=by
 unfold xrunOp
 split
 · rename_i h;rw [h] at hx;simp [isExtract] at hx
 · split
   · rename_i h1 h2;simp [plainQ,h1,h2] at hp
   · rfl
theorem xrunOp_look (o:Oper) (i:Nat) (s:St) (k:St→Done→Sy R) {q:List AVal×List (Nat×Option Nat)} {d:Nat} (hx:isExtract o.op=false) (hq:lookQ Φ s o.op=some q) (hd:o.dst=some d):xrunOp Φ o i s k=(match calm Φ s o d with
 | some e=>.if_ e.cond (bif e.o.isNone then k (s.set d e.v) (doneL i q e.v) else .fail 17) (.fail 8)
 | none=>.fail 4):=by
 unfold xrunOp
 split
 · rename_i h;rw [h] at hx;simp [isExtract] at hx
 · rw [hq,hd];rfl
theorem den_runOp (o:Oper) (i:Nat) (s:St) (k:St→Done→Sy R):(xrunOp Φ o i s k).den C L I=runOp Φ C o i s fun s d=>(k s d).den C L I:=by
 cases hx:isExtract o.op with
 | false=>
   cases hp:plainQ Φ s o with
   | true=>
     obtain ⟨q,d,hq,hd⟩:=plainQ_some hp
     rw [xrunOp_look o i s k hx hq hd,runOp_look hx hq hd]
     cases calm Φ s o d with
     | none=>rfl
     | some e=>
       simp only [Sy.den,Option.bind_some]
       cases e.cond with
       | false=>rfl
       | true=>cases e.o.isNone <;> rfl
   | false=>
     rw [xrunOp_plain o i s k hx hp,runOp_plain hx hp,den_effK,←veffK_bind]
     congr 1
     funext e
     simp only [Sy.den,okOp]
     cases e.cond with
     | false=>simp
     | true=>simp only [cond_true,Bool.true_and];cases (okEff (s.part o.op) (mof Φ s o) e&&((o.dst.isNone||e.v.isSome)&&(keysMade Φ o).all fun K=>Nat.blt K passBase&&(s.obj K).isNone)) <;> rfl
 | true=>
   unfold xrunOp runOp
   cases ho:o.op with
   | extract x j=>
     cases x with
     | tmp t=>
       dsimp only
       cases s.tmp t with
       | tup vs=>
         cases o.dst with
         | none=>rfl
         | some d=>dsimp only;cases (Nat.blt j vs.length&&noUnd (vs.getD j .und)) <;> rfl
       | _=>rfl
     | _=>rw [ho] at hx;simp [isExtract] at hx
   | _=>rw [ho] at hx;simp [isExtract] at hx
theorem den_skipOp (o:Oper) (i:Nat) (s:St) (k:St→Done→Sy R):(xskipOp o i s k).den C L I=skipOp o i s fun s d=>(k s d).den C L I:=rfl
theorem den_op (ops:Array Oper) (gs:List Nat) (o:Oper) (i:Nat) (s:St) (k:List Nat→St→Done→Sy R) (k':St→Done→Option R) (hk : ∀gs s d,(k gs s d).den C L I=k' s d):(xop Φ ops gs o i s k).den C L I=vop Φ C ops o i s k':=by
 have hk' : ∀gs,(fun s d=>(k gs s d).den C L I)=k':=fun gs=>by funext s d;exact hk gs s d
 unfold xop vop
 cases o.guard with
 | none=>simp only [den_runOp,hk']
 | some x=>
   obtain ⟨j,want⟩:=x
   dsimp only
   cases dstOf ops j with
   | none=>rfl
   | some g=>
     dsimp only
     cases s.tmp g with
     | bool b=>
       dsimp only
       cases mem g gs with
       | true=>cases b <;> cases want <;> simp only [cond_true,cond_false,den_runOp,den_skipOp,hk']
       | false=>cases b <;> cases want <;> simp only [Sy.den,cond_true,cond_false,den_runOp,den_skipOp,hk']
     | tup vs=>cases vs <;> first|rfl|simp only [den_skipOp,hk']
     | _=>rfl
theorem den_ops (ops:Array Oper) : ∀(l:List Oper) (i:Nat) (gs:List Nat) (s:St) (ds:List Done) (k:St→List Done→Sy R),(xops Φ ops l i gs s ds k).den C L I=vops Φ C ops l i s ds fun s d=>(k s d).den C L I
 | [],i,gs,s,ds,k=>rfl
 | o::r,i,gs,s,ds,k=>by
   simp only [xops,vops]
   exact den_op ops gs o i s _ _ fun gs s d=>den_ops ops r _ gs _ _ _
theorem den_region (ops:Array Oper) (draw:Bool) (s:St) (k:St→Sy R):(xregion Φ ops draw s k).den C L I=vregion Φ C ops draw s fun s=>(k s).den C L I:=by
 unfold xregion vregion
 rw [den_ops]
 congr 1
 funext s' ds
 cases draw with
 | false=>rfl
 | true=>cases (edgesOk ops.toList 0&&orderOk ops (ancs ops.toList []) ds) <;> rfl
def LoopOK (Φ:Ctx) (C:Oracle) (fn:FnI) (np n:Nat) (L:Nat→St→Option (Out×St)):Code→Nat→Prop
 | .seq a b,h=>LoopOK Φ C fn np n L a h∧LoopOK Φ C fn np n L b (h+loops a)
 | .cond _ a b,h=>LoopOK Φ C fn np n L a h∧LoopOK Φ C fn np n L b (h+loops a)
 | .block _ a,h=>LoopOK Φ C fn np n L a h
 | .scope a,h=>LoopOK Φ C fn np n L a h
 | .loop a,h=>(∀s,L h (norm (fn.loops.getD h default).live (fn.loops.getD h default).own np s)=iter (fun s k=>vexec Φ C fn np n a (h+1) s k) fn np (fn.loops.getD h default) n s)∧LoopOK Φ C fn np n L a (h+1)
 | _,_=>True
theorem den_exec {fn:FnI} {np n:Nat} : ∀(c:Code) (h:Nat) (s:St) (k:Out→St→Sy R),LoopOK Φ C fn np n L c h→(xexec Φ fn np c h s k).den C L I=vexec Φ C fn np n c h s fun o s=>(k o s).den C L I
 | .skip,h,s,k,_=>by simp only [xexec,vexec]
 | .region _ ops draw,h,s,k,_=>by simp only [xexec,vexec];exact den_region ..
 | .seq a b,h,s,k,hL=>by
   simp only [xexec,vexec]
   rw [den_exec a h s _ hL.1]
   congr 1
   funext o s'
   cases o <;> first|rfl|exact den_exec b _ _ _ hL.2
 | .cond c a b,h,s,k,hL=>by
   simp only [xexec,vexec]
   cases s.ev Φ 0 c with
   | none=>rfl
   | some v=>
     cases v with
     | bool x=>
       simp only [Sy.den]
       rw [den_exec a h s _ hL.1,den_exec b _ s _ hL.2]
     | _=>rfl
 | .block id a,h,s,k,hL=>by
   simp only [xexec,vexec]
   rw [den_exec a h s _ hL]
   congr 1
   funext o s'
   cases o with
   | exit j=>dsimp only;cases Nat.beq j id <;> rfl
   | _=>rfl
 | .loop a,h,s,k,hL=>by
   simp only [xexec,vexec,Sy.den]
   rw [hL.1 s]
 | .exit id,h,s,k,_=>by simp only [xexec,vexec]
 | .scope a,h,s,k,hL=>by simp only [xexec,vexec];exact den_exec a h s k hL
 | .label _,h,s,k,_=>by simp only [xexec,vexec]
 | .ret,h,s,k,_=>by simp only [xexec,vexec]
 | .rangeFunc _ _ _ _,h,s,k,_=>rfl
 | .goto _,h,s,k,_=>rfl
 | .refuse _,h,s,k,_=>rfl
end
end Go.VK
namespace Go.VK
open AVal
def loopAt:Code→Nat→Nat→Option Code
 | .seq a b,h,j=>bif Nat.blt j (h+loops a) then loopAt a h j else loopAt b (h+loops a) j
 | .cond _ a b,h,j=>bif Nat.blt j (h+loops a) then loopAt a h j else loopAt b (h+loops a) j
 | .block _ a,h,j=>loopAt a h j
 | .scope a,h,j=>loopAt a h j
 | .loop a,h,j=>bif Nat.beq j h then some a else loopAt a (h+1) j
 | _,_,_=>none
def iter2 (body:St→(Out→St→Option (Out×St))→Option (Out×St)) (fn:FnI) (np:Nat) (h:LoopHint):Nat→St→Option (Out×St)
 | 0,_=>none
 | n+1,s=>body s fun o s'=>match o with
   | .normal=>iter2 body fn np h n (norm h.live h.own np s')
   | o=>some (o,normExit fn np h o s')
theorem iter_iter2 (body:St→(Out→St→Option (Out×St))→Option (Out×St)) (fn:FnI) (np:Nat) (h:LoopHint) : ∀(n:Nat) (s:St),iter body fn np h n s=iter2 body fn np h n (norm h.live h.own np s)
 | 0,s=>rfl
 | n+1,s=>by
   simp only [iter,iter2]
   congr 1
   funext o s'
   cases o <;> first|rfl|exact iter_iter2 body fn np h n s'
def lit (Φ:Ctx) (C:Oracle) (fn:FnI) (np n h m:Nat) (s:St):Option (Out×St):=
 match loopAt fn.body 0 h with
 | some a=>iter2 (fun s k=>vexec Φ C fn np n a (h+1) s k) fn np (fn.loops.getD h default) m s
 | none=>none
section
variable {Φ:Ctx} {C:Oracle} {fn:FnI} {np n:Nat} {R:Type}
theorem loopOK_of : ∀(c:Code) (h:Nat),(∀j,h≤j→j<h+loops c→loopAt fn.body 0 j=loopAt c h j)→LoopOK Φ C fn np n (fun h s=>lit Φ C fn np n h n s) c h
 | .seq a b,h,H=>by
   refine ⟨loopOK_of a h fun j h1 h2 => ?_,loopOK_of b _ fun j h1 h2 => ?_⟩
   · rw [H j h1 (by simp only [loops];omega)];simp only [loopAt];rw [Nat.blt_eq.mpr (by omega)];rfl
   · rw [H j (by omega) (by simp only [loops];omega)];simp only [loopAt]
     rw [show Nat.blt j (h+loops a)=false from by cases hb:Nat.blt j (h+loops a) with|false=>rfl|true=>have:=Nat.blt_eq.mp hb;omega];rfl
 | .cond _ a b,h,H=>by
   refine ⟨loopOK_of a h fun j h1 h2 => ?_,loopOK_of b _ fun j h1 h2 => ?_⟩
   · rw [H j h1 (by simp only [loops];omega)];simp only [loopAt];rw [Nat.blt_eq.mpr (by omega)];rfl
   · rw [H j (by omega) (by simp only [loops];omega)];simp only [loopAt]
     rw [show Nat.blt j (h+loops a)=false from by cases hb:Nat.blt j (h+loops a) with|false=>rfl|true=>have:=Nat.blt_eq.mp hb;omega];rfl
 | .block _ a,h,H=>loopOK_of a h fun j h1 h2=>by rw [H j h1 (by simpa only [loops] using h2)];rfl
 | .scope a,h,H=>loopOK_of a h fun j h1 h2=>by rw [H j h1 (by simpa only [loops] using h2)];rfl
 | .loop a,h,H=>by
   refine ⟨fun s => ?_,loopOK_of a (h+1) fun j h1 h2 => ?_⟩
   · have:=H h (Nat.le_refl _) (by simp only [loops];omega)
     simp only [lit,this,loopAt,Nat.beq_refl,cond_true,iter_iter2]
   · rw [H j (by omega) (by simp only [loops];omega)]
     simp only [loopAt,beq_ne (show j≠h by omega),cond_false]
 | .skip,_,_=>trivial
 | .region _ _ _,_,_=>trivial
 | .rangeFunc _ _ _ _,_,_=>trivial
 | .exit _,_,_=>trivial
 | .label _,_,_=>trivial
 | .goto _,_,_=>trivial
 | .ret,_,_=>trivial
 | .refuse _,_,_=>trivial
theorem LoopOK.sub {L:Nat→St→Option (Out×St)} {h:Nat} {a:Code} : ∀(c:Code) (h0:Nat),LoopOK Φ C fn np n L c h0→loopAt c h0 h=some a→LoopOK Φ C fn np n L a (h+1)
 | .seq x y,h0,H,e=>by
   simp only [loopAt,Bool.cond_eq_ite] at e
   split at e
   · exact LoopOK.sub x _ H.1 e
   · exact LoopOK.sub y _ H.2 e
 | .cond _ x y,h0,H,e=>by
   simp only [loopAt,Bool.cond_eq_ite] at e
   split at e
   · exact LoopOK.sub x _ H.1 e
   · exact LoopOK.sub y _ H.2 e
 | .block _ x,h0,H,e=>LoopOK.sub x h0 H e
 | .scope x,h0,H,e=>LoopOK.sub x h0 H e
 | .loop x,h0,H,e=>by
   simp only [loopAt,Bool.cond_eq_ite] at e
   split at e
   · rename_i hb
     cases e
     rw [Nat.eq_of_beq_eq_true hb]
     exact H.2
   · exact LoopOK.sub x _ H.2 e
 | .skip,_,_,e=>by simp [loopAt] at e
 | .region _ _ _,_,_,e=>by simp [loopAt] at e
 | .rangeFunc _ _ _ _,_,_,e=>by simp [loopAt] at e
 | .exit _,_,_,e=>by simp [loopAt] at e
 | .label _,_,_,e=>by simp [loopAt] at e
 | .goto _,_,_,e=>by simp [loopAt] at e
 | .ret,_,_,e=>by simp [loopAt] at e
 | .refuse _,_,_,e=>by simp [loopAt] at e
theorem loopOK_body:LoopOK Φ C fn np n (fun h s=>lit Φ C fn np n h n s) fn.body 0:=loopOK_of fn.body 0 fun _ _ _=>rfl
theorem lit_den {h:Nat} {a:Code} (ha:loopAt fn.body 0 h=some a) (m:Nat) (s:St) :
 lit Φ C fn np n h (m+1) s=(xbody Φ fn np a h s).den C (fun h s=>lit Φ C fn np n h n s) (lit Φ C fn np n h m):=by
 have hI:lit Φ C fn np n h m=iter2 (fun s k=>vexec Φ C fn np n a (h+1) s k) fn np (fn.loops.getD h default) m:=by funext s;simp only [lit,ha]
 unfold xbody
 rw [den_exec a (h+1) _ _ (LoopOK.sub _ _ loopOK_body ha)]
 simp only [lit,ha,iter2]
 congr 1
 funext o s'
 cases o with
 | normal=>
   simp only [Sy.den]
   rw [hI]
   cases iter2 (fun s k=>vexec Φ C fn np n a (h+1) s k) fn np (fn.loops.getD h default) m (norm (fn.loops.getD h default).live (fn.loops.getD h default).own np s') <;> rfl
 | _=>rfl
theorem vcall_den {k f:Nat} {args:List AVal} {objs:List VObj} (hf:lk Φ.fns f=some fn) (hn:lk Φ.nats f=none) (I:St→Option (Out×St)) :
 vcall Φ (k+1) f args objs=(xcall Φ fn args objs).den (vcall Φ k) (fun h s=>lit Φ (vcall Φ k) fn objs.length k h k s) I:=by
 simp only [vcall,hf,hn,xcall]
 cases Nat.ble args.length fn.nt with
 | false=>rfl
 | true=>
   simp only [Bool.not_true,cond_false,cond_true]
   rw [den_exec _ _ _ _ loopOK_body]
   congr 1
   funext o s
   cases o with
   | exit _=>rfl
   | _=>dsimp only;cases vret Φ fn objs.length s <;> rfl
def Ev (Φ:Ctx) (f:Nat) (args:List AVal) (objs:List VObj) (r:List AVal×List VObj):Prop := ∃k0,∀k,k0≤k→vcall Φ k f args objs=some r
def LEv (Φ:Ctx) (fn:FnI) (np h:Nat) (s:St) (r:Out×St):Prop := ∃k0,∀k m,k0≤k→k0≤m→lit Φ (vcall Φ k) fn np k h m s=some r
def Sy.to (Φ:Ctx) (fn:FnI) (np:Nat) (J:St→Out×St→Prop):Sy R→R→Prop
 | .ret r',r=>r'=r
 | .fail _,_=>False
 | .if_ b t e,r=>(b=true→t.to Φ fn np J r)∧(b=false→e.to Φ fn np J r)
 | .call f a o k,r => ∃x,Ev Φ f a o x∧(k x).to Φ fn np J r
 | .loop h s k,r => ∃x,LEv Φ fn np h s x∧(k x).to Φ fn np J r
 | .next s k,r => ∃x,J s x∧(k x).to Φ fn np J r
@[simp] theorem to_y {J:St→Out×St→Prop} (t:Sy R) (r:R):t.y.to Φ fn np J r=t.to Φ fn np J r:=by simp [Sy.y,Sy.to]
theorem to_den {J:St→Out×St→Prop} {I:Nat→Nat→St→Option (Out×St)} (hJ : ∀s x,J s x → ∃k0,∀k m,k0≤k→k0≤m→I k m s=some x) :
 ∀(t:Sy R) (r:R),t.to Φ fn np J r → ∃k0,∀k m,k0≤k→k0≤m→t.den (vcall Φ k) (fun h s=>lit Φ (vcall Φ k) fn np k h k s) (I k m)=some r
 | .ret r',r,h=>⟨0,fun k m _ _=>by simp only [Sy.to] at h;subst h;rfl⟩
 | .fail _,_,h=>by simp [Sy.to] at h
 | .if_ b t e,r,h=>by
   simp only [Sy.to] at h
   cases b with
   | true=>obtain ⟨k0,H⟩:=to_den hJ t r (h.1 rfl);exact ⟨k0,fun k m h1 h2=>by simp only [Sy.den,cond_true];exact H k m h1 h2⟩
   | false=>obtain ⟨k0,H⟩:=to_den hJ e r (h.2 rfl);exact ⟨k0,fun k m h1 h2=>by simp only [Sy.den,cond_false];exact H k m h1 h2⟩
 | .call f a o k',r,h=>by
   simp only [Sy.to] at h
   obtain ⟨x,⟨k1,H1⟩,h2⟩:=h
   obtain ⟨k2,H2⟩:=to_den hJ (k' x) r h2
   exact ⟨max k1 k2,fun k m h1 h2=>by simp only [Sy.den];rw [H1 k (by omega)];exact H2 k m (by omega) (by omega)⟩
 | .loop hh s k',r,h=>by
   simp only [Sy.to] at h
   obtain ⟨x,⟨k1,H1⟩,h2⟩:=h
   obtain ⟨k2,H2⟩:=to_den hJ (k' x) r h2
   exact ⟨max k1 k2,fun k m h1 h2=>by simp only [Sy.den];rw [H1 k k (by omega) (by omega)];exact H2 k m (by omega) (by omega)⟩
 | .next s k',r,h=>by
   simp only [Sy.to] at h
   obtain ⟨x,h1,h2⟩:=h
   obtain ⟨k1,H1⟩:=hJ s x h1
   obtain ⟨k2,H2⟩:=to_den hJ (k' x) r h2
   exact ⟨max k1 k2,fun k m h1 h2=>by simp only [Sy.den];rw [H1 k m (by omega) (by omega)];exact H2 k m (by omega) (by omega)⟩
theorem ev_of {f:Nat} {args:List AVal} {objs:List VObj} {r:List AVal×List VObj} {t:Sy (List AVal×List VObj)} (hf:lk Φ.fns f=some fn) (hn:lk Φ.nats f=none) (ht:xcall Φ fn args objs=t) (h:t.to Φ fn objs.length (fun _ _=>False) r):Ev Φ f args objs r:=by
 obtain ⟨k0,H⟩:=to_den (I:=fun _ _ _=>none) (fun s x h=>h.elim) t r h
 refine ⟨k0+1,fun k hk => ?_⟩
 obtain ⟨k,rfl⟩ : ∃j,k=j+1:=⟨k-1,by omega⟩
 rw [vcall_den hf hn (fun _=>none),ht]
 exact H k k (by omega) (by omega)
theorem lev_of {h:Nat} {a:Code} {s:St} {r:Out×St} {t:Sy (Out×St)} (ha:loopAt fn.body 0 h=some a) (ht:xbody Φ fn np a h s=t) (H:t.to Φ fn np (LEv Φ fn np h) r):LEv Φ fn np h s r:=by
 obtain ⟨k0,H⟩:=to_den (I:=fun k m=>lit Φ (vcall Φ k) fn np k h m) (fun s x h=>h) t r H
 refine ⟨k0+1,fun k m hk hm => ?_⟩
 obtain ⟨m,rfl⟩ : ∃j,m=j+1:=⟨m-1,by omega⟩
 rw [lit_den ha,ht]
 exact H k m (by omega) (by omega)
end
end Go.VK
namespace Go.VK
open AVal
inductive Kd where|b|i|s|l|v
inductive Lf where
 | b (x:Bool)|i (x:Int)|s (x:ByteArray)|l (x:List AVal)|v (x:AVal)
def Kd.Ty:Kd→Type|.b=>Bool|.i=>Int|.s=>ByteArray|.l=>List AVal|.v=>AVal
def TyK:List Kd→Type
 | []=>Unit
 | [k]=>k.Ty
 | k::m::r=>k.Ty×TyK (m::r)
def Kd.lf:(k:Kd)→k.Ty→Lf|.b,x=>.b x|.i,x=>.i x|.s,x=>.s x|.l,x=>.l x|.v,x=>.v x
def Kd.of:(k:Kd)→Lf→Option k.Ty
 | .b,.b x=>some x|.i,.i x=>some x|.s,.s x=>some x|.l,.l x=>some x|.v,.v x=>some x|_,_=>none
def lfs:(ks:List Kd)→TyK ks→List Lf
 | [],_=>[]
 | [k],x=>[k.lf x]
 | k::m::r,x=>k.lf x.1::lfs (m::r) x.2
def ofLfs:(ks:List Kd)→List Lf→Option (TyK ks)
 | [],ls=>(match ls with|[]=>some ()|_::_=>none)
 | [k],ls=>(match ls with|[]=>none|x::r=>(match r with|[]=>k.of x|_::_=>none))
 | k::m::r,ls=>(match ls with|[]=>none|x::xs=>(match k.of x with|some a=>(match ofLfs (m::r) xs with|some b=>some (a,b)|none=>none)|none=>none))
theorem Kd.of_eq {k:Kd} {x:Lf} {a:k.Ty} (h:k.of x=some a):k.lf a=x:=by
 cases k <;> cases x <;> (simp only [Kd.of] at h;cases h) <;> rfl
theorem lfs_of : ∀(ks:List Kd) (ls:List Lf) (x:TyK ks),ofLfs ks ls=some x→lfs ks x=ls
 | [],ls,x,h=>by
   cases ls with
   | nil=>rfl
   | cons _ _=>unfold ofLfs at h;cases h
 | [k],ls,x,h=>by
   cases ls with
   | nil=>unfold ofLfs at h;cases h
   | cons y r=>
     cases r with
     | nil=>unfold ofLfs at h;unfold lfs;rw [Kd.of_eq (a:=x) h]
     | cons _ _=>unfold ofLfs at h;cases h
 | k::m::r,ls,x,h=>by
   cases ls with
   | nil=>unfold ofLfs at h;cases h
   | cons y ys=>
     unfold ofLfs at h
     cases h1:k.of y with
     | none=>simp only [h1] at h;cases h
     | some a=>
       cases h2:ofLfs (m::r) ys with
       | none=>simp only [h1,h2] at h;cases h
       | some b=>
         simp only [h1,h2] at h
         cases h
         show k.lf a::lfs (m::r) b=y::ys
         rw [Kd.of_eq h1,lfs_of (m::r) ys b h2]
def eqN:List Nat→List Nat→Bool
 | [],[]=>true
 | a::r,b::q=>Nat.beq a b&&eqN r q
 | _,_=>false
theorem eqN_eq : ∀{p q:List Nat},eqN p q=true→p=q
 | [],[],_=>rfl
 | a::r,b::q,h=>by
   simp only [eqN,Bool.and_eq_true] at h
   rw [Nat.eq_of_beq_eq_true h.1,eqN_eq h.2]
 | [],_::_,h=>by simp [eqN] at h
 | _::_,[],h=>by simp [eqN] at h
def eqO:Option Nat→Option Nat→Bool
 | none,none=>true
 | some a,some b=>Nat.beq a b
 | _,_=>false
theorem eqO_eq {p q:Option Nat} (h:eqO p q=true):p=q:=by
 cases p <;> cases q <;> simp [eqO] at h ⊢;exact h
inductive Pt where
 | bool|int (k:IntKind)|str|ro (t:Bool) (sz:Nat)|own (sz:Nat)
 | und|nilp|nils (sz:Nat)|ptr (K:Nat) (p:List (Option Nat)) (off:Option Nat)|ref (K:Nat) (p:List (Option Nat))
 | rop (off:Option Nat)
 | agg (ps:List Pt)|tup (ps:List Pt)|clo (f:Nat) (ps:List Pt)
 | mp (kc:CT)
 | unk
def kindsP:List (Option Nat)→List Kd
 | []=>[]
 | some _::r=>kindsP r
 | none::r=>.i::kindsP r
mutual
def Pt.kinds:Pt→List Kd
 | .bool=>[.b]|.int _=>[.i]|.str=>[.s]|.ro _ _=>[.l]|.own _=>[.l]|.rop _=>[.v]|.mp _=>[.l]
 | .ptr _ p _=>kindsP p|.ref _ p=>kindsP p
 | .agg ps=>kindsL ps|.tup ps=>kindsL ps|.clo _ ps=>kindsL ps
 | _=>[]
def kindsL:List Pt→List Kd
 | []=>[]
 | p::ps=>p.kinds++kindsL ps
end
def hdB:List Lf→Bool|.b x::_=>x|_=>false
def hdI:List Lf→Int|.i x::_=>x|_=>0
def hdS:List Lf→ByteArray|.s x::_=>x|_=>ByteArray.empty
def hdV:List Lf→AVal|.v x::_=>x|_=>.und
def hdL:List Lf→List AVal|.l x::_=>x|_=>[]
def encP:List (Option Nat)→List Lf→List Nat×List Lf
 | [],r=>([],r)
 | some n::p,r=>match encP p r with|(q,z)=>(n::q,z)
 | none::p,r=>match encP p r.tail with|(q,z)=>((hdI r).toNat::q,z)
def decP:List (Option Nat)→List Nat→Option (List Lf)
 | [],[]=>some []
 | some n::p,m::q=>bif Nat.beq n m then decP p q else none
 | none::p,m::q=>(match decP p q with|some r=>some (.i (m:Int)::r)|none=>none)
 | _,_=>none
theorem encP_of : ∀{p:List (Option Nat)} {q:List Nat} {ls:List Lf},decP p q=some ls → ∀r,encP p (ls++r)=(q,r)
 | [],[],ls,h,r=>by simp only [decP,Option.some.injEq] at h;subst h;rfl
 | [],_::_,ls,h,r=>by simp [decP] at h
 | some _::_,[],ls,h,r=>by simp [decP] at h
 | none::_,[],ls,h,r=>by simp [decP] at h
 | some n::p,m::q,ls,h,r=>by
   simp only [decP,Bool.cond_eq_ite] at h
   split at h
   · rename_i hb
     simp only [encP,encP_of h,Nat.eq_of_beq_eq_true hb]
   · cases h
 | none::p,m::q,ls,h,r=>by
   simp only [decP] at h
   split at h
   · rename_i z hz
     simp only [Option.some.injEq] at h
     subst h
     simp only [List.cons_append,encP,List.tail_cons,encP_of hz,hdI,Int.toNat_natCast]
   · cases h
mutual
def Pt.enc:Pt→List Lf→AVal×List Lf
 | .bool,r=>(.bool (hdB r),r.tail)
 | .int k,r=>(.int k (hdI r),r.tail)
 | .str,r=>(.str (hdS r),r.tail)
 | .ro t sz,r=>(.ro t sz (hdL r),r.tail)
 | .own sz,r=>(.own sz (hdL r),r.tail)
 | .mp kc,r=>(.mp kc (hdL r),r.tail)
 | .und,r=>(.und,r)
 | .nilp,r=>(.nilp,r)
 | .unk,r=>(.unk,r)
 | .nils sz,r=>(.nils sz,r)
 | .ptr K p off,r=>match encP p r with|(q,z)=>(.ptr K q off,z)
 | .ref K p,r=>match encP p r with|(q,z)=>(.ref K q,z)
 | .rop o,r=>(.rop (hdV r) o,r.tail)
 | .agg ps,r=>match encL ps r with|(vs,q)=>(.agg vs,q)
 | .tup ps,r=>match encL ps r with|(vs,q)=>(.tup vs,q)
 | .clo f ps,r=>match encL ps r with|(vs,q)=>(.clo f vs,q)
def encL:List Pt→List Lf→List AVal×List Lf
 | [],r=>([],r)
 | p::ps,r=>match p.enc r with|(v,q)=>match encL ps q with|(vs,z)=>(v::vs,z)
end
mutual
def Pt.dec:Pt→AVal→Option (List Lf)
 | .bool,.bool x=>some [.b x]
 | .int k,.int j n=>bif decide (k=j) then some [.i n] else none
 | .str,.str x=>some [.s x]
 | .ro t sz,.ro u z xs=>bif (t==u)&&Nat.beq sz z then some [.l xs] else none
 | .own sz,.own z xs=>bif Nat.beq sz z then some [.l xs] else none
 | .mp kc,.mp j xs=>bif decide (kc=j) then some [.l xs] else none
 | .und,.und=>some []
 | .nilp,.nilp=>some []
 | .unk,.unk=>some []
 | .nils sz,.nils z=>bif Nat.beq sz z then some [] else none
 | .ptr K p o,.ptr J q u=>bif Nat.beq K J&&eqO o u then decP p q else none
 | .ref K p,.ref J q=>bif Nat.beq K J then decP p q else none
 | .rop o,.rop x u=>bif eqO o u then some [.v x] else none
 | .agg ps,.agg vs=>decL ps vs
 | .tup ps,.tup vs=>decL ps vs
 | .clo f ps,.clo g vs=>bif Nat.beq f g then decL ps vs else none
 | _,_=>none
def decL:List Pt→List AVal→Option (List Lf)
 | [],[]=>some []
 | p::ps,v::vs=>(match p.dec v,decL ps vs with|some a,some b=>some (a++b)|_,_=>none)
 | _,_=>none
end
theorem bif_some {α:Type} {c:Bool} {a b:α} (h:(bif c then some a else none)=some b):c=true∧a=b:=by cases c <;> simp at h ⊢;exact h
theorem bif_opt {α:Type} {c:Bool} {a:Option α} {b:α} (h:(bif c then a else none)=some b):c=true∧a=some b:=by cases c <;> simp at h ⊢;exact h
mutual
theorem Pt.enc_of : ∀{p:Pt} {v:AVal} {ls:List Lf},p.dec v=some ls → ∀r,p.enc (ls++r)=(v,r)
 | .bool,v,ls,h,r=>by cases v <;> simp [Pt.dec] at h;subst h;rfl
 | .int k,v,ls,h,r=>by
   cases v <;> simp only [Pt.dec,reduceCtorEq] at h
   obtain ⟨h1,rfl⟩:=bif_some h
   cases of_decide_eq_true h1;rfl
 | .str,v,ls,h,r=>by cases v <;> simp [Pt.dec] at h;subst h;rfl
 | .ro t sz,v,ls,h,r=>by
   cases v <;> simp only [Pt.dec,reduceCtorEq] at h
   obtain ⟨h1,rfl⟩:=bif_some h
   simp only [Bool.and_eq_true,beq_iff_eq] at h1
   obtain ⟨rfl,h1⟩:=h1
   rw [←Nat.eq_of_beq_eq_true h1];rfl
 | .own sz,v,ls,h,r=>by
   cases v <;> simp only [Pt.dec,reduceCtorEq] at h
   obtain ⟨h1,rfl⟩:=bif_some h
   rw [←Nat.eq_of_beq_eq_true h1];rfl
 | .mp kc,v,ls,h,r=>by
   cases v <;> simp only [Pt.dec,reduceCtorEq] at h
   obtain ⟨h1,rfl⟩:=bif_some h
   cases of_decide_eq_true h1;rfl
 | .und,v,ls,h,r=>by cases v <;> simp [Pt.dec] at h;subst h;rfl
 | .nilp,v,ls,h,r=>by cases v <;> simp [Pt.dec] at h;subst h;rfl
 | .unk,v,ls,h,r=>by cases v <;> simp [Pt.dec] at h;subst h;rfl
 | .nils sz,v,ls,h,r=>by
   cases v <;> simp only [Pt.dec,reduceCtorEq] at h
   obtain ⟨h1,rfl⟩:=bif_some h
   rw [←Nat.eq_of_beq_eq_true h1];rfl
 | .ptr K p o,v,ls,h,r=>by
   cases v <;> simp only [Pt.dec,reduceCtorEq] at h
   obtain ⟨h1,h⟩:=bif_opt h
   simp only [Bool.and_eq_true] at h1
   rw [←Nat.eq_of_beq_eq_true h1.1,←eqO_eq h1.2]
   simp only [Pt.enc,encP_of h r]
 | .ref K p,v,ls,h,r=>by
   cases v <;> simp only [Pt.dec,reduceCtorEq] at h
   obtain ⟨h1,h⟩:=bif_opt h
   rw [←Nat.eq_of_beq_eq_true h1]
   simp only [Pt.enc,encP_of h r]
 | .rop o,v,ls,h,r=>by
   cases v <;> simp only [Pt.dec,reduceCtorEq] at h
   obtain ⟨h1,rfl⟩:=bif_some h
   rw [←eqO_eq h1];rfl
 | .agg ps,v,ls,h,r=>by
   cases v <;> simp only [Pt.dec,reduceCtorEq] at h
   simp only [Pt.enc,encL_of h r]
 | .tup ps,v,ls,h,r=>by
   cases v <;> simp only [Pt.dec,reduceCtorEq] at h
   simp only [Pt.enc,encL_of h r]
 | .clo f ps,v,ls,h,r=>by
   cases v <;> simp only [Pt.dec,reduceCtorEq] at h
   obtain ⟨h1,h⟩:=bif_opt h
   rw [←Nat.eq_of_beq_eq_true h1]
   simp only [Pt.enc,encL_of h r]
theorem encL_of : ∀{ps:List Pt} {vs:List AVal} {ls:List Lf},decL ps vs=some ls → ∀r,encL ps (ls++r)=(vs,r)
 | [],[],ls,h,r=>by simp only [decL,Option.some.injEq] at h;subst h;rfl
 | [],_::_,ls,h,r=>by simp [decL] at h
 | _::_,[],ls,h,r=>by simp [decL] at h
 | p::ps,v::vs,ls,h,r=>by
   simp only [decL] at h
   split at h
   · rename_i a b h1 h2
     cases h
     simp only [encL,List.append_assoc,Pt.enc_of h1,encL_of h2]
   · cases h
end
def kindsO:List (Bool×Pt)→List Kd
 | []=>[]
 | (_,p)::r=>p.kinds++kindsO r
def encO:List (Bool×Pt)→List Lf→List VObj×List Lf
 | [],r=>([],r)
 | (b,p)::ps,r=>match p.enc r with|(v,q)=>match encO ps q with|(vs,z)=>({ box:=b,c:=v }::vs,z)
def decO:List (Bool×Pt)→List VObj→Option (List Lf)
 | [],[]=>some []
 | (b,p)::ps,o::os=>bif b==o.box then (match p.dec o.c,decO ps os with|some x,some y=>some (x++y)|_,_=>none) else none
 | _,_=>none
theorem encO_of : ∀{ps:List (Bool×Pt)} {vs:List VObj} {ls:List Lf},decO ps vs=some ls → ∀r,encO ps (ls++r)=(vs,r)
 | [],[],ls,h,r=>by simp only [decO,Option.some.injEq] at h;subst h;rfl
 | [],_::_,ls,h,r=>by simp [decO] at h
 | _::_,[],ls,h,r=>by simp [decO] at h
 | (b,p)::ps,o::os,ls,h,r=>by
   simp only [decO] at h
   obtain ⟨hb,h⟩:=bif_opt h
   have hb:b=o.box:=by simpa using hb
   split at h
   · rename_i x y h1 h2
     cases h
     simp only [encO,List.append_assoc,Pt.enc_of h1,encO_of h2,hb]
   · cases h
structure IOP where
 vs:List Pt
 os:List (Bool×Pt):=[]
def IOP.kinds (S:IOP):List Kd:=kindsL S.vs++kindsO S.os
def IOP.enc (S:IOP) (x:TyK S.kinds):List AVal×List VObj:=
 match encL S.vs (lfs S.kinds x) with|(vs,r)=>(vs,(encO S.os r).1)
def IOP.dec (S:IOP) (x:List AVal×List VObj):Option (TyK S.kinds):=
 match decL S.vs x.1,decO S.os x.2 with|some a,some b=>ofLfs S.kinds (a++b)|_,_=>none
theorem IOP.enc_of {S:IOP} {x:List AVal×List VObj} {y:TyK S.kinds} (h:S.dec x=some y):S.enc y=x:=by
 simp only [IOP.dec] at h
 split at h
 · rename_i a b h1 h2
   simp only [IOP.enc,lfs_of _ _ _ h,encL_of h1]
   have:=encO_of h2 []
   rw [List.append_nil] at this
   rw [this]
 · cases h
def kindsE:List (Nat×Pt)→List Kd
 | []=>[]
 | (_,p)::r=>p.kinds++kindsE r
def encE:List (Nat×Pt)→List Lf→List (Nat×AVal)×List Lf
 | [],r=>([],r)
 | (t,p)::ps,r=>match p.enc r with|(v,q)=>match encE ps q with|(vs,z)=>((t,v)::vs,z)
def decE:List (Nat×Pt)→List (Nat×AVal)→Option (List Lf)
 | [],[]=>some []
 | (t,p)::ps,(u,v)::vs=>bif Nat.beq t u then (match p.dec v,decE ps vs with|some x,some y=>some (x++y)|_,_=>none) else none
 | _,_=>none
theorem encE_of : ∀{ps:List (Nat×Pt)} {vs:List (Nat×AVal)} {ls:List Lf},decE ps vs=some ls → ∀r,encE ps (ls++r)=(vs,r)
 | [],[],ls,h,r=>by simp only [decE,Option.some.injEq] at h;subst h;rfl
 | [],_::_,ls,h,r=>by simp [decE] at h
 | _::_,[],ls,h,r=>by simp [decE] at h
 | (t,p)::ps,(u,v)::os,ls,h,r=>by
   simp only [decE] at h
   obtain ⟨hb,h⟩:=bif_opt h
   have hb:=Nat.eq_of_beq_eq_true hb
   split at h
   · rename_i x y h1 h2
     cases h
     simp only [encE,List.append_assoc,Pt.enc_of h1,encE_of h2,hb]
   · cases h
def kindsS:List (Nat×Bool×Pt)→List Kd
 | []=>[]
 | (_,_,p)::r=>p.kinds++kindsS r
def encS:List (Nat×Bool×Pt)→List Lf→List (Nat×VObj)×List Lf
 | [],r=>([],r)
 | (t,b,p)::ps,r=>match p.enc r with|(v,q)=>match encS ps q with|(vs,z)=>((t,{ box:=b,c:=v })::vs,z)
def decS:List (Nat×Bool×Pt)→List (Nat×VObj)→Option (List Lf)
 | [],[]=>some []
 | (t,b,p)::ps,(u,o)::vs=>bif Nat.beq t u&&(b==o.box) then (match p.dec o.c,decS ps vs with|some x,some y=>some (x++y)|_,_=>none) else none
 | _,_=>none
theorem encS_of : ∀{ps:List (Nat×Bool×Pt)} {vs:List (Nat×VObj)} {ls:List Lf},decS ps vs=some ls → ∀r,encS ps (ls++r)=(vs,r)
 | [],[],ls,h,r=>by simp only [decS,Option.some.injEq] at h;subst h;rfl
 | [],_::_,ls,h,r=>by simp [decS] at h
 | _::_,[],ls,h,r=>by simp [decS] at h
 | (t,b,p)::ps,(u,o)::os,ls,h,r=>by
   simp only [decS] at h
   obtain ⟨hb,h⟩:=bif_opt h
   simp only [Bool.and_eq_true,beq_iff_eq] at hb
   have hu:=Nat.eq_of_beq_eq_true hb.1
   split at h
   · rename_i x y h1 h2
     cases h
     simp only [encS,List.append_assoc,Pt.enc_of h1,encS_of h2,hu,hb.2]
   · cases h
structure SP where
 env:List (Nat×Pt)
 objs:List (Nat×Bool×Pt):=[]
def SP.kinds (S:SP):List Kd:=kindsE S.env++kindsS S.objs
def SP.enc (S:SP) (x:TyK S.kinds):St:=
 match encE S.env (lfs S.kinds x) with|(e,r)=>{ env:=e,objs:=(encS S.objs r).1 }
def nilQ {α:Type}:List α→Bool|[]=>true|_=>false
def SP.dec (S:SP) (s:St):Option (TyK S.kinds):=
 bif nilQ s.ka&&(nilQ s.ki&&nilQ s.kr) then (match decE S.env s.env,decS S.objs s.objs with|some a,some b=>ofLfs S.kinds (a++b)|_,_=>none) else none
theorem SP.enc_of {S:SP} {s:St} {y:TyK S.kinds} (h:S.dec s=some y):S.enc y=s:=by
 simp only [SP.dec] at h
 have hb:=bif_opt h
 clear h
 obtain ⟨h0,hd⟩:=hb
 obtain ⟨env,objs,ka,ki,kr⟩:=s
 simp only [Bool.and_eq_true] at h0 hd
 obtain ⟨q1,q2,q3⟩:=h0
 cases ka <;> cases ki <;> cases kr <;> simp [nilQ] at q1 q2 q3
 cases h1:decE S.env env with
 | none=>simp only [h1] at hd;cases hd
 | some a=>
   cases h2:decS S.objs objs with
   | none=>simp only [h1,h2] at hd;cases hd
   | some b=>
     simp only [h1,h2] at hd
     simp only [SP.enc,lfs_of _ _ _ hd,encE_of h1]
     have:=encS_of h2 []
     rw [List.append_nil] at this
     rw [this]
structure Ex where
 out:Out
 st:SP
def eqOut:Out→Out→Bool
 | .normal,.normal=>true
 | .exit a,.exit b=>Nat.beq a b
 | .ret,.ret=>true
 | _,_=>false
theorem eqOut_eq {a b:Out} (h:eqOut a b=true):a=b:=by
 cases a <;> cases b <;> simp [eqOut] at h ⊢;exact h
def Ex.dec (e:Ex) (x:Out×St):Option (TyK e.st.kinds):=bif eqOut e.out x.1 then e.st.dec x.2 else none
def Ex.enc (e:Ex) (y:TyK e.st.kinds):Out×St:=(e.out,e.st.enc y)
theorem Ex.enc_of {e:Ex} {x:Out×St} {y:TyK e.st.kinds} (h:e.dec x=some y):e.enc y=x:=by
 obtain ⟨h1,h2⟩:=bif_opt h
 simp only [Ex.enc,SP.enc_of h2,eqOut_eq h1]
def TyX:List Ex→Type
 | []=>Empty
 | [e]=>TyK e.st.kinds
 | e::f::r=>TyK e.st.kinds ⊕ TyX (f::r)
def decX:(X:List Ex)→Out×St→Option (TyX X)
 | [],_=>none
 | [e],x=>e.dec x
 | e::f::r,x=>match e.dec x with
   | some a=>some (.inl a)
   | none=>(match decX (f::r) x with|some b=>some (.inr b)|none=>none)
def elimX {R:Type}:(X:List Ex)→(Out×St→Option R)→TyX X→Option R
 | [],_,_=>none
 | [e],k,y=>k (e.enc y)
 | e::f::r,k,y=>Sum.elim (fun a=>k (e.enc a)) (elimX (f::r) k) y
theorem elimX_of {R:Type} {k:Out×St→Option R} {r:R} : ∀{X:List Ex} {x:Out×St} {y:TyX X},decX X x=some y→elimX X k y=some r→k x=some r
 | [],x,y,h,_=>by simp [decX] at h
 | [e],x,y,h,h2=>by
   simp only [decX] at h
   simp only [elimX,Ex.enc_of h] at h2
   exact h2
 | e::f::q,x,y,h,h2=>by
   simp only [decX] at h
   split at h
   · rename_i a h1
     cases h
     simp only [elimX,Sum.elim_inl,Ex.enc_of h1] at h2
     exact h2
   · split at h
     · rename_i b h3
       cases h
       simp only [elimX,Sum.elim_inr] at h2
       exact elimX_of h3 h2
     · cases h
def Bnd {α β:Type} (v:α) (k:α→β):β:=k v
theorem bnd_eq {α β:Type} (v:α) (k:α→β):Bnd v k=k v:=rfl
end Go.VK
namespace Go.VK
open AVal
structure Sig where
 i:IOP
 o:IOP
open Classical in
noncomputable def FnV (Φ:Ctx) (f:Nat) (S:Sig) (x:TyK S.i.kinds):Option (TyK S.o.kinds):=
 if h : ∃r,Ev Φ f (S.i.enc x).1 (S.i.enc x).2 r then S.o.dec h.choose else none
open Classical in
noncomputable def LpV (Φ:Ctx) (fn:FnI) (np h:Nat) (X:List Ex) (S:SP) (x:TyK S.kinds):Option (TyX X):=
 if h : ∃r,LEv Φ fn np h (S.enc x) r then decX X h.choose else none
section
variable {Φ:Ctx} {fn:FnI} {np:Nat}
theorem Ev.det {f:Nat} {a:List AVal} {o:List VObj} {r q:List AVal×List VObj} (h:Ev Φ f a o r) (k:Ev Φ f a o q):r=q:=by
 obtain ⟨k0,h⟩:=h
 obtain ⟨k1,k⟩:=k
 have:=(h (max k0 k1) (by omega)).symm.trans (k (max k0 k1) (by omega))
 exact Option.some.inj this
theorem LEv.det {h:Nat} {s:St} {r q:Out×St} (a:LEv Φ fn np h s r) (b:LEv Φ fn np h s q):r=q:=by
 obtain ⟨k0,a⟩:=a
 obtain ⟨k1,b⟩:=b
 have:=(a (max k0 k1) (max k0 k1) (by omega) (by omega)).symm.trans (b (max k0 k1) (max k0 k1) (by omega) (by omega))
 exact Option.some.inj this
theorem fn_ev {f:Nat} {S:Sig} {x:TyK S.i.kinds} {y:TyK S.o.kinds} (h:FnV Φ f S x=some y):Ev Φ f (S.i.enc x).1 (S.i.enc x).2 (S.o.enc y):=by
 unfold FnV at h
 split at h
 · rename_i g
   rw [IOP.enc_of h];exact g.choose_spec
 · cases h
theorem fn_intro {f:Nat} {S:Sig} {x:TyK S.i.kinds} {y:TyK S.o.kinds} {r:List AVal×List VObj} (h:Ev Φ f (S.i.enc x).1 (S.i.enc x).2 r) (hd:S.o.dec r=some y):FnV Φ f S x=some y:=by
 unfold FnV
 have g : ∃r,Ev Φ f (S.i.enc x).1 (S.i.enc x).2 r:=⟨r,h⟩
 rw [dif_pos g,g.choose_spec.det h,hd]
theorem lp_some {h:Nat} {X:List Ex} {S:SP} {x:TyK S.kinds} {y:TyX X} (a:LpV Φ fn np h X S x=some y) : ∃r,LEv Φ fn np h (S.enc x) r∧decX X r=some y:=by
 unfold LpV at a
 split at a
 · rename_i g
   exact ⟨_,g.choose_spec,a⟩
 · cases a
theorem lp_intro {h:Nat} {X:List Ex} {S:SP} {x:TyK S.kinds} {y:TyX X} {r:Out×St} (a:LEv Φ fn np h (S.enc x) r) (hd:decX X r=some y):LpV Φ fn np h X S x=some y:=by
 unfold LpV
 have g : ∃r,LEv Φ fn np h (S.enc x) r:=⟨r,a⟩
 rw [dif_pos g,g.choose_spec.det a,hd]
end
noncomputable def CC {T:Type} (Φ:Ctx):List (Nat×Sig)→Nat→List AVal→List VObj→(List AVal×List VObj→Option T)→Option T
 | [],_,_,_,_=>none
 | (g,S)::l,f,a,o,k=>bif Nat.beq g f then (match S.i.dec (a,o) with
   | some x=>(FnV Φ g S x).bind fun y=>k (S.o.enc y)
   | none=>CC Φ l f a o k) else CC Φ l f a o k
structure LSig where
 h:Nat
 X:List Ex
 Ss:List SP
noncomputable def lookS {T:Type} (Φ:Ctx) (fn:FnI) (np h:Nat) (X:List Ex):List SP→St→(TyX X→Option T)→Option T
 | [],_,_=>none
 | S::l,s,k=>match S.dec s with|some x=>(LpV Φ fn np h X S x).bind k|none=>lookS Φ fn np h X l s k
noncomputable def nextS (Φ:Ctx) (fn:FnI) (np h:Nat) (X:List Ex):List SP→St→Option (TyX X)
 | [],_=>none
 | S::l,s=>match S.dec s with|some x=>LpV Φ fn np h X S x|none=>nextS Φ fn np h X l s
noncomputable def LL {T:Type} (Φ:Ctx) (fn:FnI) (np:Nat):List LSig→Nat→St→(Out×St→Option T)→Option T
 | [],_,_,_=>none
 | S::l,h,s,k=>bif Nat.beq S.h h then lookS Φ fn np h S.X S.Ss s (elimX S.X k) else LL Φ fn np l h s k
noncomputable def Sy.val {T:Type} (C:Nat→List AVal→List VObj→(List AVal×List VObj→Option T)→Option T) (L:Nat→St→(Out×St→Option T)→Option T) (t:Sy (Option T)):Option T:=
 Sy.rec (motive:=fun _=>Option T) (fun r=>r) (fun _=>none) (fun b _ _ x y=>bif b then x else y) (fun f a o _ k=>C f a o k) (fun h s _ k=>L h s k) (fun _ _ _=>none) t
section
variable {Φ:Ctx} {fn:FnI} {np:Nat} {R T:Type}
theorem cc_some : ∀{l:List (Nat×Sig)} {f:Nat} {a:List AVal} {o:List VObj} {k:List AVal×List VObj→Option T} {y:T},CC Φ l f a o k=some y → ∃x,Ev Φ f a o x∧k x=some y
 | [],f,a,o,k,y,h=>by simp [CC] at h
 | (g,S)::l,f,a,o,k,y,h=>by
   simp only [CC,Bool.cond_eq_ite] at h
   split at h
   · rename_i hb
     have hb:=Nat.eq_of_beq_eq_true hb
     subst hb
     split at h
     · rename_i x hx
       obtain ⟨z,h1,h2⟩:=Option.bind_eq_some_iff.1 h
       have:=fn_ev h1
       rw [IOP.enc_of hx] at this
       exact ⟨_,this,h2⟩
     · exact cc_some h
   · exact cc_some h
theorem lookS_some {h:Nat} {X:List Ex} {k:TyX X→Option T} {y:T} : ∀{l:List SP} {s:St},lookS Φ fn np h X l s k=some y → ∃x z,LEv Φ fn np h s x∧decX X x=some z∧k z=some y
 | [],s,a=>by simp [lookS] at a
 | S::l,s,a=>by
   simp only [lookS] at a
   split at a
   · rename_i x hx
     obtain ⟨z,h1,h2⟩:=Option.bind_eq_some_iff.1 a
     obtain ⟨r,h3,h4⟩:=lp_some h1
     rw [SP.enc_of hx] at h3
     exact ⟨r,z,h3,h4,h2⟩
   · exact lookS_some a
theorem nextS_some {h:Nat} {X:List Ex} {y:TyX X} : ∀{l:List SP} {s:St},nextS Φ fn np h X l s=some y → ∃x,LEv Φ fn np h s x∧decX X x=some y
 | [],s,a=>by simp [nextS] at a
 | S::l,s,a=>by
   simp only [nextS] at a
   split at a
   · rename_i x hx
     obtain ⟨r,h3,h4⟩:=lp_some a
     rw [SP.enc_of hx] at h3
     exact ⟨r,h3,h4⟩
   · exact nextS_some a
theorem ll_some : ∀{l:List LSig} {h:Nat} {s:St} {k:Out×St→Option T} {y:T},LL Φ fn np l h s k=some y → ∃x,LEv Φ fn np h s x∧k x=some y
 | [],h,s,k,y,a=>by simp [LL] at a
 | S::l,h,s,k,y,a=>by
   simp only [LL,Bool.cond_eq_ite] at a
   split at a
   · obtain ⟨x,z,h1,h2,h3⟩:=lookS_some a
     exact ⟨x,h1,elimX_of h2 h3⟩
   · exact ll_some a
variable (Φ fn np) in
def RelV (C:Nat→List AVal→List VObj→(List AVal×List VObj→Option T)→Option T) (L:Nat→St→(Out×St→Option T)→Option T) (J:St→Out×St→Prop) (D:R→T→Prop) (t:Sy (Option T)) (u:Sy R):Prop:=
 ∀y,t.val C L=some y → ∃r,D r y∧u.to Φ fn np J r
variable {C:Nat→List AVal→List VObj→(List AVal×List VObj→Option T)→Option T} {L:Nat→St→(Out×St→Option T)→Option T} {J:St→Out×St→Prop} {D:R→T→Prop}
theorem rel_fail (n:Nat) (u:Sy R):RelV Φ fn np C L J D (.fail n) u:=fun y h=>by cases h
theorem rel_if {b:Bool} {t e:Sy (Option T)} {t' e':Sy R} (h1:RelV Φ fn np C L J D t t') (h2:RelV Φ fn np C L J D e e'):RelV Φ fn np C L J D (.if_ b t e) (.if_ b t' e'):=fun y h=>by
 cases b with
 | true=>obtain ⟨r,g1,g2⟩:=h1 y h;exact ⟨r,g1,fun _=>g2,fun h=>(by cases h)⟩
 | false=>obtain ⟨r,g1,g2⟩:=h2 y h;exact ⟨r,g1,fun h=>(by cases h),fun _=>g2⟩
theorem rel_call (hC : ∀f a o k y,C f a o k=some y → ∃x,Ev Φ f a o x∧k x=some y) {f:Nat} {a:List AVal} {o:List VObj} {k:List AVal×List VObj→Sy (Option T)} {k':List AVal×List VObj→Sy R} (h : ∀x,RelV Φ fn np C L J D (k x) (k' x)):RelV Φ fn np C L J D (.call f a o k) (.call f a o k'):=fun y g=>by
 obtain ⟨x,h1,h2⟩:=hC f a o _ y g
 obtain ⟨r,h3,h4⟩:=h x y h2
 exact ⟨r,h3,x,h1,h4⟩
theorem rel_loop (hL : ∀h s k y,L h s k=some y → ∃x,LEv Φ fn np h s x∧k x=some y) {h:Nat} {s:St} {k:Out×St→Sy (Option T)} {k':Out×St→Sy R} (H : ∀x,RelV Φ fn np C L J D (k x) (k' x)):RelV Φ fn np C L J D (.loop h s k) (.loop h s k'):=fun y g=>by
 obtain ⟨x,h1,h2⟩:=hL h s _ y g
 obtain ⟨r,h3,h4⟩:=H x y h2
 exact ⟨r,h3,x,h1,h4⟩
theorem rel_bif {b:Bool} {t e:Sy (Option T)} {t' e':Sy R} (h1:RelV Φ fn np C L J D t t') (h2:RelV Φ fn np C L J D e e'):RelV Φ fn np C L J D (bif b then t else e) (bif b then t' else e'):=by cases b;exact h2;exact h1
variable (hC : ∀f a o k y,C f a o k=some y → ∃x,Ev Φ f a o x∧k x=some y) (hL : ∀h s k y,L h s k=some y → ∃x,LEv Φ fn np h s x∧k x=some y)
include hC in
theorem rel_effK (p:St) (o:Oper) {k:Eff→Sy (Option T)} {k':Eff→Sy R} (h : ∀e,RelV Φ fn np C L J D (k e) (k' e)):RelV Φ fn np C L J D (xeffK Φ p o k) (xeffK Φ p o k'):=by
 unfold xeffK
 cases veff Φ p o with
 | some e=>exact h e
 | none=>
   cases o.op with
   | call c=>
     dsimp only
     cases vsend Φ p c with
     | none=>exact rel_fail _ _
     | some x=>
       refine rel_if (rel_call hC fun r => ?_) (rel_fail _ _)
       try dsimp only
       cases callEff Φ o x r.1 r.2 with
       | none=>exact rel_fail _ _
       | some e=>exact h e
   | _=>exact rel_fail _ _
include hC in
theorem rel_runOp (o:Oper) (i:Nat) (s:St) {k:St→Done→Sy (Option T)} {k':St→Done→Sy R} (h : ∀s d,RelV Φ fn np C L J D (k s d) (k' s d)):RelV Φ fn np C L J D (xrunOp Φ o i s k) (xrunOp Φ o i s k'):=by
 unfold xrunOp
 split
 · split
   · exact rel_bif (h _ _) (rel_fail _ _)
   · exact rel_fail _ _
 · split
   · split
     · exact rel_if (rel_bif (h _ _) (rel_fail _ _)) (rel_fail _ _)
     · exact rel_fail _ _
   · exact rel_effK hC _ _ fun e=>rel_if (rel_bif (h _ _) (rel_fail _ _)) (rel_fail _ _)
include hC in
theorem rel_op (ops:Array Oper) (gs:List Nat) (o:Oper) (i:Nat) (s:St) {k:List Nat→St→Done→Sy (Option T)} {k':List Nat→St→Done→Sy R} (h : ∀g s d,RelV Φ fn np C L J D (k g s d) (k' g s d)):RelV Φ fn np C L J D (xop Φ ops gs o i s k) (xop Φ ops gs o i s k'):=by
 have hr:=fun g s=>rel_runOp (R:=R) (fn:=fn) (np:=np) (L:=L) (J:=J) (D:=D) hC o i s (h g)
 have hs : ∀g s,RelV Φ fn np C L J D (xskipOp o i s (k g)) (xskipOp o i s (k' g)):=fun g s=>h _ _ _
 unfold xop
 split
 · exact hr _ _
 · split
   · exact rel_fail _ _
   · split
     all_goals
      first
      | exact rel_bif (rel_bif (rel_bif (hr _ _) (hs _ _)) (rel_bif (hs _ _) (hr _ _))) (rel_if (rel_bif (hr _ _) (hs _ _)) (rel_bif (hs _ _) (hr _ _)))
      | exact hs _ _
      | exact rel_fail _ _
include hC in
theorem rel_ops (ops:Array Oper) : ∀(l:List Oper) (i:Nat) (gs:List Nat) (s:St) (ds:List Done) {k:St→List Done→Sy (Option T)} {k':St→List Done→Sy R},(∀s d,RelV Φ fn np C L J D (k s d) (k' s d))→RelV Φ fn np C L J D (xops Φ ops l i gs s ds k) (xops Φ ops l i gs s ds k')
 | [],i,gs,s,ds,k,k',h=>h _ _
 | o::r,i,gs,s,ds,k,k',h=>by
   simp only [xops]
   exact rel_op hC ops gs o i s fun g s d=>rel_ops ops r _ _ _ _ h
include hC in
theorem rel_region (ops:Array Oper) (draw:Bool) (s:St) {k:St→Sy (Option T)} {k':St→Sy R} (h : ∀s,RelV Φ fn np C L J D (k s) (k' s)):RelV Φ fn np C L J D (xregion Φ ops draw s k) (xregion Φ ops draw s k'):=by
 unfold xregion
 exact rel_ops hC ops _ _ _ _ _ fun s d=>rel_bif (rel_bif (h _) (rel_fail _ _)) (h _)
include hC hL in
theorem rel_exec : ∀(c:Code) (h:Nat) (s:St) {k:Out→St→Sy (Option T)} {k':Out→St→Sy R},(∀o s,RelV Φ fn np C L J D (k o s) (k' o s))→RelV Φ fn np C L J D (xexec Φ fn np c h s k) (xexec Φ fn np c h s k')
 | .skip,h,s,k,k',H=>by simp only [xexec];exact H _ _
 | .region _ ops draw,h,s,k,k',H=>by simp only [xexec];exact rel_region hC ops draw s fun s=>H _ _
 | .seq a b,h,s,k,k',H=>by
   simp only [xexec]
   refine rel_exec a h s fun o s' => ?_
   cases o with
   | normal=>exact rel_exec b _ _ H
   | _=>exact H _ _
 | .cond c a b,h,s,k,k',H=>by
   simp only [xexec]
   split
   · exact rel_if (rel_exec a _ _ H) (rel_exec b _ _ H)
   · exact rel_fail _ _
 | .block id a,h,s,k,k',H=>by
   simp only [xexec]
   refine rel_exec a h s fun o s' => ?_
   cases o with
   | exit j=>exact rel_bif (H _ _) (H _ _)
   | _=>exact H _ _
 | .loop a,h,s,k,k',H=>by
   simp only [xexec]
   exact rel_loop hL fun x=>H _ _
 | .exit id,h,s,k,k',H=>by simp only [xexec];exact H _ _
 | .scope a,h,s,k,k',H=>by simp only [xexec];exact rel_exec a h s H
 | .label _,h,s,k,k',H=>by simp only [xexec];exact H _ _
 | .ret,h,s,k,k',H=>by simp only [xexec];exact H _ _
 | .rangeFunc _ _ _ _,h,s,k,k',H=>by simp only [xexec];exact rel_fail _ _
 | .goto _,h,s,k,k',H=>by simp only [xexec];exact rel_fail _ _
 | .refuse _,h,s,k,k',H=>by simp only [xexec];exact rel_fail _ _
end
def xcallT (Φ:Ctx) (fn:FnI) (S:Sig) (x:List AVal×List VObj):Sy (Option (TyK S.o.kinds)):=
 bif Nat.ble x.1.length fn.nt then (xexec Φ fn x.2.length fn.body 0 { env:=numFrom 0 (x.1.map shift),objs:=numFrom passBase x.2 }
  fun o s=>match o with
   | .exit _=>.fail 14
   | _=>match vret Φ fn x.2.length s with|some r=>.ret (S.o.dec r)|none=>.fail 15) else .fail 16
noncomputable def xbodyT (Φ:Ctx) (fn:FnI) (np h:Nat) (X:List Ex) (Ss:List SP) (s:St):Sy (Option (TyX X)):=
 xexec Φ fn np ((loopAt fn.body 0 h).getD .skip) (h+1) s fun o s'=>match o with
  | .normal=>.ret (nextS Φ fn np h X Ss (norm (fn.loops.getD h default).live (fn.loops.getD h default).own np s'))
  | o=>.ret (decX X (o,normExit fn np (fn.loops.getD h default) o s'))
section
variable {Φ:Ctx} {fn:FnI} {np:Nat}
theorem fn_of {cs:List (Nat×Sig)} {ls:List LSig} {f:Nat} {S:Sig} {x:TyK S.i.kinds} {y:TyK S.o.kinds} (hf:lk Φ.fns f=some fn) (hn:lk Φ.nats f=none) (hp:S.i.os.length=np)
 (h:(xcallT Φ fn S (S.i.enc x)).val (CC Φ cs) (LL Φ fn np ls)=some y):FnV Φ f S x=some y:=by
 have hlen:(S.i.enc x).2.length=np:=by
  rw [←hp]
  have : ∀(ps:List (Bool×Pt)) (r:List Lf),(encO ps r).1.length=ps.length:=by
   intro ps
   induction ps with
   | nil=>intro r;rfl
   | cons p ps ih=>intro r;simp [encO,ih]
  exact this _ _
 have key:RelV Φ fn np (CC Φ cs) (LL Φ fn np ls) (fun _ _=>False) (fun r y=>S.o.dec r=some y) (xcallT Φ fn S (S.i.enc x)) (xcall Φ fn (S.i.enc x).1 (S.i.enc x).2):=by
  unfold xcallT xcall
  rw [hlen]
  refine rel_bif (rel_exec (fun f a o k y=>cc_some) (fun h s k y=>ll_some) _ _ _ fun o s => ?_) (rel_fail _ _)
  have hret:RelV Φ fn np (CC Φ cs) (LL Φ fn np ls) (fun _ _=>False) (fun r y=>S.o.dec r=some y) (match vret Φ fn np s with|some r=>.ret (S.o.dec r)|none=>.fail 15) (match vret Φ fn np s with|some r=>.ret r|none=>.fail 15):=by
   cases vret Φ fn np s with
   | none=>exact rel_fail _ _
   | some r=>exact fun y h=>⟨r,h,rfl⟩
  cases o with
  | exit _=>exact rel_fail _ _
  | _=>exact hret
 obtain ⟨r,h1,h2⟩:=key y h
 rw [←hlen] at h2
 exact fn_intro (ev_of hf hn rfl h2) h1
theorem natF_ws {T e:Nat} {z:ByteArray} {xs:List AVal} (hb:Φ.bld=some (T,e)) (h:(bldQ T e xs&&Nat.ble ((bldS xs).size+z.size) 140737488355328)=true) :
 natF Φ 1 [.ref 0 [],.str z] [{ box:=false,c:=.mp .oth xs }]=some ([.int .i64 (z.size:Int),.und],[{ box:=false,c:=.mp .oth (bldMk T e (bldS xs++z)) }]):=by
 simp only [natF,hb,h,cond_true]
theorem natF_wb {T e:Nat} {c:Int} {xs:List AVal} (hb:Φ.bld=some (T,e)) (h:(bldQ T e xs&&(Nat.ble ((bldS xs).size+1) 140737488355328&&(decide (0≤c)&&decide (c<256))))=true) :
 natF Φ 2 [.ref 0 [],.int .u8 c] [{ box:=false,c:=.mp .oth xs }]=some ([.und],[{ box:=false,c:=.mp .oth (bldMk T e ((bldS xs).push c.toNat.toUInt8)) }]):=by
 simp only [natF,hb,h,cond_true]
theorem natF_it {n:Int} (h:(decide (-9223372036854775808≤n)&&decide (n≤9223372036854775807))=true):natF Φ 4 [.int .i64 n] []=some ([.str (itoaB n)],[]):=by
 unfold natF
 split <;> first|(simp_all;done)|simp only [h,cond_true]
theorem natF_rp {z:ByteArray} {n:Int} (h:(decide (0≤n)&&(decide (n≤9223372036854775807)&&Nat.ble (z.size*n.toNat) 140737488355328))=true):natF Φ 5 [.str z,.int .i64 n] []=some ([.str (repB z n.toNat)],[]):=by
 cases hb:Φ.bld with
 | none=>simp only [natF,hb,h,cond_true]
 | some q=>obtain ⟨T,e⟩:=q;simp only [natF,hb,h,cond_true]
theorem natF_st {T e:Nat} {xs:List AVal} (hb:Φ.bld=some (T,e)) (h:bldQ T e xs=true):natF Φ 3 [.ref 0 []] [{ box:=false,c:=.mp .oth xs }]=some ([.str (bldS xs)],[{ box:=false,c:=.und }]):=by
 simp only [natF,hb,h,cond_true]
theorem fn_nat {f n:Nat} {S:Sig} {x:TyK S.i.kinds} {y:TyK S.o.kinds} {r:List AVal×List VObj} (hf:(lk Φ.fns f).isSome=true) (hn:lk Φ.nats f=some n) (h:natF Φ n (S.i.enc x).1 (S.i.enc x).2=some r) (hd:S.o.dec r=some y):FnV Φ f S x=some y:=by
 refine fn_intro ⟨1,fun k hk => ?_⟩ hd
 obtain ⟨k,rfl⟩ : ∃j,k=j+1:=⟨k-1,by omega⟩
 obtain ⟨fn,hf⟩:=Option.isSome_iff_exists.1 hf
 simp only [vcall,hf,hn,h]
theorem lp_of {cs:List (Nat×Sig)} {ls:List LSig} {h:Nat} {X:List Ex} {Ss:List SP} {S:SP} {x:TyK S.kinds} {y:TyX X} (ha:(loopAt fn.body 0 h).isSome=true)
 (H:(xbodyT Φ fn np h X Ss (S.enc x)).val (CC Φ cs) (LL Φ fn np ls)=some y):LpV Φ fn np h X S x=some y:=by
 obtain ⟨a,ha⟩:=Option.isSome_iff_exists.1 ha
 have key:RelV Φ fn np (CC Φ cs) (LL Φ fn np ls) (LEv Φ fn np h) (fun r y=>decX X r=some y) (xbodyT Φ fn np h X Ss (S.enc x)) (xbody Φ fn np a h (S.enc x)):=by
  unfold xbodyT xbody
  rw [ha]
  refine rel_exec (fun f a o k y=>cc_some) (fun h s k y=>ll_some) _ _ _ fun o s => ?_
  cases o with
  | normal=>
    intro y g
    obtain ⟨r,h1,h2⟩:=nextS_some (show nextS Φ fn np h X Ss _=some y from g)
    exact ⟨r,h2,r,h1,rfl⟩
  | _=>exact fun y g=>⟨_,g,rfl⟩
 obtain ⟨r,h1,h2⟩:=key y H
 exact lp_intro (lev_of ha rfl h2) h1
end
end Go.VK
namespace Go.VK
open AVal
section
variable {Φ:Ctx} {t:Nat} {x:AVal}
def strQ (Φ:Ctx) (t:Nat):Bool:=match Φ.ti t with|some T => !T.agg&&(match T.cts with|[.str]=>true|_=>false)|none=>false
def boolQ (Φ:Ctx) (t:Nat):Bool:=match Φ.ti t with|some T => !T.agg&&(match T.cts with|[.bool]=>true|_=>false)|none=>false
def intQ (Φ:Ctx) (t:Nat) (k:IntKind):Bool:=match Φ.ti t with|some T => !T.agg&&(match T.cts with|[.int j]=>decide (k=j)|_=>false)|none=>false
def sliceQ (Φ:Ctx) (t sz e:Nat):Bool:=match Φ.ti t with|some T => !T.agg&&((match T.cts with|[.slice z]=>Nat.beq z sz|_=>false)&&eqO T.elem (some e))|none=>false
def structQ (Φ:Ctx) (t:Nat) (us:List Nat):Bool:=match Φ.ti t with|some T=>T.agg&&eqN (T.offs.map (·.2)) us|none=>false
theorem Fits.str' (h:Fits Φ t x) (hq:strQ Φ t=true) : ∃s,x=.str s∧s.size≤maxLen:=by
 unfold strQ at hq
 cases h with
 | str h1 h2 h3 h4=>exact ⟨_,rfl,h4⟩
 | struct h1 h2 h3 h4=>rw [h1] at hq;simp [h2] at hq
 | _ h1 h2 h3=>rw [h1] at hq;simp [h2,h3] at hq
theorem Fits.bool' (h:Fits Φ t x) (hq:boolQ Φ t=true) : ∃b,x=.bool b:=by
 unfold boolQ at hq
 cases h with
 | bool h1 h2 h3=>exact ⟨_,rfl⟩
 | struct h1 h2 h3 h4=>rw [h1] at hq;simp [h2] at hq
 | _ h1 h2 h3=>rw [h1] at hq;simp [h2,h3] at hq
theorem Fits.int' {k:IntKind} (h:Fits Φ t x) (hq:intQ Φ t k=true) : ∃n,x=.int k n∧(Lit.int k n).wf=true:=by
 unfold intQ at hq
 cases h with
 | int h1 h2 h3 h4=>
   rw [h1] at hq
   simp only [h2,h3,Bool.not_false,Bool.true_and,decide_eq_true_eq] at hq
   subst hq
   exact ⟨_,rfl,h4⟩
 | struct h1 h2 h3 h4=>rw [h1] at hq;simp [h2] at hq
 | _ h1 h2 h3=>rw [h1] at hq;simp [h2,h3] at hq
theorem Fits.slice' {sz e:Nat} (h:Fits Φ t x) (hq:sliceQ Φ t sz e=true) : ∃xs,x=.ro false sz xs∧xs.length≤maxLen ∧ ∀y∈xs,Fits Φ e y:=by
 unfold sliceQ at hq
 cases h with
 | slice h1 h2 h3 h4 h5 h6=>
   rw [h1] at hq
   simp only [h2,h3,h4,Bool.not_false,Bool.true_and,Bool.and_eq_true] at hq
   rw [Nat.eq_of_beq_eq_true hq.1]
   have:=eqO_eq hq.2
   cases this
   exact ⟨_,rfl,h5,h6⟩
 | struct h1 h2 h3 h4=>rw [h1] at hq;simp [h2] at hq
 | _ h1 h2 h3=>rw [h1] at hq;simp [h2,h3] at hq
theorem fitsL_of : ∀{us:List Nat} {fs:List AVal},fs.length=us.length→(∀(i u:Nat) (y:AVal),us[i]? = some u→fs[i]? = some y→Fits Φ u y)→FitsL Φ us fs
 | [],[],_,_=>.nil
 | [],_::_,h,_=>by simp at h
 | _::_,[],h,_=>by simp at h
 | u::us,f::fs,h,H=>.cons (H 0 u f rfl rfl) (fitsL_of (by simpa using h) fun i u y a b=>H (i+1) u y (by simpa using a) (by simpa using b))
theorem Fits.struct' {us:List Nat} (h:Fits Φ t x) (hq:structQ Φ t us=true) : ∃fs:List AVal,x=.agg (fs.flatMap AVal.cells)∧FitsL Φ us fs:=by
 unfold structQ at hq
 cases h with
 | struct h1 h2 h3 h4=>
   rw [h1] at hq
   simp only [Bool.and_eq_true] at hq
   have:=eqN_eq hq.2
   subst this
   refine ⟨_,rfl,fitsL_of (by simpa using h3) fun i u y a b => ?_⟩
   rw [List.getElem?_map] at a
   simp only [Option.map_eq_some_iff] at a
   obtain ⟨⟨o,u'⟩,a1,rfl⟩:=a
   exact h4 i o u' y a1 b
 | _ h1 h2 h3=>rw [h1] at hq;simp [h2] at hq
theorem FitsL.cons' {ts:List Nat} {xs:List AVal} (h:FitsL Φ (t::ts) xs) : ∃x r,xs=x::r∧Fits Φ t x∧FitsL Φ ts r:=by
 cases h with|cons h1 h2=>exact ⟨_,_,rfl,h1,h2⟩
theorem FitsL.nil' {xs:List AVal} (h:FitsL Φ [] xs):xs=[]:=by cases h;rfl
theorem law_of {f:Nat} {S:Sig} {a:TyK S.i.kinds} {y:TyK S.o.kinds} {xs:List AVal} (h:FnV Φ f S a=some y) (h1:S.i.enc a=(xs,[])) (h2:S.o.enc y=([.bool true],[])) : ∃k,vcall Φ k f xs []=some ([.bool true],[]):=by
 obtain ⟨k,hk⟩:=fn_ev h
 rw [h1,h2] at hk
 exact ⟨k,hk k (Nat.le_refl _)⟩
end
end Go.VK
