/- An evaluator of the model's code on values, and the proof that it tells what the code does, part 3; no condition. -/
import Derived.Test.YtgoaegbddpmiiaaVmb
namespace Go.VK
open AVal
section
variable {P:Program} {Φ:Ctx} {w w':World} {fz al:Nat→Prop} {p s:St} {a:Act} {O0:OM} {R:RM} {M:List Nat}
theorem OwL.setMany {E:Env2} : ∀{us:List AVal} {news:List Value} {cs:List AVal} {c:List Value} {f g:Foot} (off:Nat),OwL w fz E cs c f→OwL w fz E us news g→off+us.length≤cs.length →
 ∃f3:Foot,(∀b,f3 b≤f b+g b)∧OwL w fz E (VK.setMany cs off us) (setManyV c off news) f3
 | [],news,cs,c,f,g,off,h,hu,_=>by
   simp only [OwL] at hu
   obtain ⟨rfl,_⟩:=hu
   exact ⟨f,fun b=>by omega,h⟩
 | u::us,news,cs,c,f,g,off,h,hu,hle=>by
   simp only [OwL] at hu
   obtain ⟨v,r,g1,g2,rfl,h1,h2,h3⟩:=hu
   simp only [List.length_cons] at hle
   obtain ⟨v0,f1,f2,_,_,hff,hk⟩:=OwL.at off h (by omega)
   obtain ⟨f3,k1,k2⟩:=OwL.setMany (off+1) (hk u v g1 h1) h2 (by simp;omega)
   exact ⟨f3,fun b=>by have:=k1 b;have:=hff b;have:=h3 b;omega,k2⟩
theorem setManyV_app (A D:List Value) : ∀(news c1:List Value) (off:Nat),off+news.length≤c1.length→setManyV (A++(c1++D)) (A.length+off) news=A++(setManyV c1 off news++D)
 | [],c1,off,_=>rfl
 | v::r,c1,off,h=>by
   simp only [List.length_cons] at h
   simp only [setManyV]
   rw [List.set_append_right _ _ (by omega),Nat.add_sub_cancel_left,List.set_append_left _ _ (by omega)]
   have:=setManyV_app A D r (c1.set off v) (off+1) (by simp;omega)
   rw [←this];rfl
theorem set_part {cs c1 news:List Value} {o1 off:Nat} (h:(cs.drop o1).take c1.length=c1) (hle:o1+c1.length≤cs.length) (hoff:off+news.length≤c1.length) :
 setManyV cs (o1+off) news=cs.take o1++(setManyV c1 off news++cs.drop (o1+c1.length)):=by
 have e:cs=cs.take o1++(c1++cs.drop (o1+c1.length)):=by
  have:=seg_split (c:=cs) (d:=c1) (m:=o1) (n:=c1.length) h.symm
  exact this.symm
 have hl:(cs.take o1).length=o1:=by simp;omega
 have:=setManyV_app (cs.take o1) (cs.drop (o1+c1.length)) news c1 off hoff
 rw [←e,hl] at this
 exact this
theorem put_agg : ∀(p:List Nat) (x y:AVal),p≠[]→aggQ x=false→aggQ (x.put p y)=false
 | [],_,_,h,_=>absurd rfl h
 | i::p,x,y,_,h=>by cases x <;> first|rfl|simp [aggQ] at h
theorem deepE_flat (E:Env2) : ∀(p:List Nat) (x:AVal),x.okp p=true→x.thru p=false→deepE E x p=E
 | [],x,_,_=>by cases x <;> rfl
 | i::p,x,ho,h=>by
   cases x with
   | agg cs=>simp only [AVal.thru] at h;simp only [AVal.okp,Bool.and_eq_true] at ho;simp only [deepE];exact deepE_flat E p _ ho.2 h
   | own sz xs=>simp [AVal.thru] at h
   | _=>rfl
theorem RelO.store {E:Env2} {O:OM} {F:Nat→Foot} {G:Foot} (h:RelO w fz al E O R F G) {K:Nat} {o:VObj} (ho:O K=some o) {p:List Nat} (hp:o.c.okp p=true) {b1 o1:Nat} (hw:walk w o.c (R K) p=some (.mem b1 o1)) :
 ∃(c1:List Value) (g1:Foot) (cs:Array Value) (el:Nat) (fr:Nat×Nat),OwC w fz (deepE E o.c p) (o.c.get p) c1 g1∧w.heap[b1]? = some (.cells cs el fr)∧Unfr fr cs.size∧o1+c1.length≤cs.size∧(cs.toList.drop o1).take c1.length=c1∧g1 b1=0∧0<F K b1∧(∀b,g1 b≤F K b) ∧
  ∀(w1:World) (cs':Array Value) (c1':List Value) (y:AVal) (f3:Foot),c1'.length=c1.length→cs'.size=cs.size→cs'.toList=cs.toList.take o1++(c1'++cs.toList.drop (o1+c1.length))→(∀i,i≠b1→w1.heap[i]? = w.heap[i]?)→w1.heap[b1]? = some (.cells cs' el fr)→w1.heap.size=w.heap.size →
   OwC w1 fz (deepE E o.c p) y c1' f3→(∀b,f3 b≤g1 b+G b) →
   RelO w1 fz al E (upO O K (some { o with c:=o.c.put p y })) R (upF F K (fun b=>f3 b+(F K b-g1 b))) zf∧(o.c.thru p=true→hdOf w1 (R K)=hdOf w (R K)):=by
 have hobj:=h.obj K o ho
 have hone:=h.one K o ho
 have key : ∃(c1:List Value) (g1:Foot) (cs:Array Value) (el:Nat) (fr:Nat×Nat),OwC w fz (deepE E o.c p) (o.c.get p) c1 g1∧w.heap[b1]? = some (.cells cs el fr)∧Unfr fr cs.size∧o1+c1.length≤cs.size∧(cs.toList.drop o1).take c1.length=c1∧g1 b1=0∧0<F K b1∧(∀b,g1 b≤F K b) ∧
  ∀(w1:World) (cs':Array Value) (c1':List Value) (y:AVal) (f3:Foot),c1'.length=c1.length→cs'.size=cs.size→cs'.toList=cs.toList.take o1++(c1'++cs.toList.drop (o1+c1.length))→(∀i,i≠b1→w1.heap[i]? = w.heap[i]?)→w1.heap[b1]? = some (.cells cs' el fr) →
   OwC w1 fz (deepE E o.c p) y c1' f3→OwO w1 fz E { o with c:=o.c.put p y } (R K) (fun b=>f3 b+(F K b-g1 b))∧(o.c.thru p=true→hdOf w1 (R K)=hdOf w (R K)):=by
  have hnf : ∀b,0<F K b → ¬fz b:=fun b hb=>(h.own K o ho b hb).2
  have hE:keepE (fun _=>false) E E:=fun _ _ _ h=>h
  unfold OwO at hobj
  by_cases hb:o.box=true
  · rw [if_pos hb] at hobj
    obtain ⟨b0,cs0,f',hl,hB,hc,hf⟩:=hobj
    have hloc:LocAt w (R K) cs0.toList:=by rw [hl];exact ⟨cs0,hB.r,by simp,by simp [List.take_of_length_le]⟩
    have hf0:f' b0=0:=by have:=hone b0;rw [hf] at this;simp at this;exact this
    obtain ⟨c1,g1,g2,hl1,hx1,hgg,hor⟩:=splice p E o.c cs0.toList f' (R K) hc hloc (fun _=>⟨_,_,hl⟩) (fun b=>by have:=hone b;rw [hf] at this;omega) hp b1 o1 hw
    obtain ⟨cs,hB1,hle,hseg⟩:=hl1
    rcases hor with ⟨hth,b',o',j,hl',rfl,rfl,hj,hkk⟩|⟨hf1,cs1,hB2,hle2,hkk⟩
    · rw [hl] at hl'
      simp only [VK.Loc.mem.injEq] at hl'
      obtain ⟨rfl,rfl⟩:=hl'
      have hcs:cs=cs0:=hB1.uniq hB.r
      subst hcs
      obtain ⟨el,fr,hheap,hunf⟩:=hB
      simp only [Nat.zero_add] at hseg hle ⊢
      have hg0:g1 b0=0∧g2 b0=0:=by have:=hgg b0;omega
      refine ⟨c1,g1,cs,el,fr,hx1,hheap,hunf,hle,hseg,hg0.1,by rw [hf];simp,fun b=>by rw [hf,hgg];omega,fun w1 cs' c1' y f3 hl1 hsz hcs hs hb1 hy=>⟨?_,fun h=>by rw [hth] at h;simp at h⟩⟩
      have h3:=hkk w1 c1' y f3 hl1 hs hg0.2 (hnf b0 (by rw [hf];simp)) hy
      rw [←hcs] at h3
      unfold OwO;rw [if_pos hb]
      exact ⟨b0,cs',_,hl,⟨el,fr,hb1,by rw [hsz];exact hunf⟩,h3,fun i=>by dsimp only;rw [hf,hgg];omega⟩
    · have hne:b0≠b1:=by rintro rfl;have:=hgg b0;omega
      have hcs:cs=cs1:=hB1.uniq hB2.r
      subst hcs
      obtain ⟨el,fr,hheap,hunf⟩:=hB2
      have hg0:g1 b1=0:=by have:=hone b1;rw [hf,hgg] at this;omega
      refine ⟨c1,g1,cs,el,fr,hx1,hheap,hunf,hle,hseg,hg0,by rw [hf,hgg];omega,fun b=>by rw [hf,hgg];omega,fun w1 cs' c1' y f3 hl1 hsz hcs hs hb1 hy=>⟨?_,fun _ => ?_⟩⟩
      · have h3:=hkk w1 cs' c1' y f3 hl1 hsz hcs hs (hnf b1 (by rw [hf,hgg];omega)) ⟨el,fr,hb1,by rw [hsz];exact hunf⟩ hy
        unfold OwO;rw [if_pos hb]
        exact ⟨b0,cs0,_,hl,hB.same (hs b0 hne),h3,fun i=>by dsimp only;rw [hf,hgg];omega⟩
      · rw [hl];exact hdOf_same fun b q he=>by simp only [VK.Loc.mem.injEq] at he;rw [←he.1];exact hs b0 hne
  · rw [if_neg hb] at hobj
    obtain ⟨v,hl,hc,hag⟩:=hobj
    have hloc:LocAt w (R K) [v]:=by rw [hl];rfl
    have hpn:p≠[]:=by rintro rfl;rw [walk_nil,hl] at hw;simp at hw
    obtain ⟨c1,g1,g2,hl1,hx1,hgg,hor⟩:=splice p E o.c [v] (F K) (R K) hc hloc (fun h=>by rw [hag] at h;simp at h) hone hp b1 o1 hw
    obtain ⟨cs,hB1,hle,hseg⟩:=hl1
    rcases hor with ⟨hth,b',o',j,hl',rfl,rfl,hj,hkk⟩|⟨hf1,cs1,hB2,hle2,hkk⟩
    · rw [hl] at hl';simp at hl'
    · have hcs:cs=cs1:=hB1.uniq hB2.r
      subst hcs
      obtain ⟨el,fr,hheap,hunf⟩:=hB2
      have hg0:g1 b1=0:=by have:=hone b1;rw [hgg] at this;omega
      refine ⟨c1,g1,cs,el,fr,hx1,hheap,hunf,hle,hseg,hg0,by rw [hgg];omega,fun b=>by rw [hgg];omega,fun w1 cs' c1' y f3 hl1 hsz hcs hs hb1 hy=>⟨?_,fun _=>by rw [hl];rfl⟩⟩
      have h3:=hkk w1 cs' c1' y f3 hl1 hsz hcs hs (hnf b1 (by rw [hgg];omega)) ⟨el,fr,hb1,by rw [hsz];exact hunf⟩ hy
      unfold OwO;rw [if_neg hb]
      have e:(fun b=>f3 b+(F K b-g1 b))=(fun b=>f3 b+g2 b):=by funext b;rw [hgg];omega
      rw [e]
      exact ⟨v,hl,h3,put_agg p _ _ hpn hag⟩
 obtain ⟨c1,g1,cs,el,fr,k1,k2,k3,k4,k5,k6,k7,k8,k9⟩:=key
 refine ⟨c1,g1,cs,el,fr,k1,k2,k3,k4,k5,k6,k7,k8,fun w1 cs' c1' y f3 h1 h2 h3 h4 h5 hsz h6 h7 => ?_⟩
 obtain ⟨m1,m2⟩:=k9 w1 cs' c1' y f3 h1 h2 h3 h4 h5 h6
 refine ⟨⟨fun J u hu => ?_,fun J u hu b => ?_,fun J u I v hJI hu hv b => ?_,fun J u hu b hb => ?_,fun _=>Nat.zero_le _,fun _ _ _ _=>.inr rfl,fun b hb=>by simp [zf] at hb,fun b hb=>by rw [hsz];exact h.lt b hb⟩,m2⟩
 · simp only [upO] at hu
   split at hu
   · rename_i hJ;subst hJ
     obtain rfl:=Option.some.inj hu
     simpa only [upF,if_true] using m1
   · rename_i hJ
     simp only [upF,if_neg hJ]
     have hbn : ∀b,0<F J b→b≠b1:=fun b hb he=>by subst he;have:=h.dis J u K o hJ hu ho b;omega
     exact OwO.mono (fun b hb=>⟨hb,h4 b fun he=>(h.own K o ho b1 k7).2 (he▸hb)⟩) (fun b hb=>h4 b (hbn b hb)) (h.obj J u hu)
 · simp only [upO] at hu
   split at hu
   · rename_i hJ;subst hJ
     simp only [upF,if_true]
     have:=h.gd J o ho b;have:=h.g1 b;have:=hone b;have:=h7 b;have:=k8 b;omega
   · rename_i hJ;simp only [upF,if_neg hJ];exact h.one J u hu b
 · have hkey : ∀J u,J≠K→O J=some u→F J b=0∨f3 b+(F K b-g1 b)=0:=by
    intro J u hJ hu
    have:=h.dis J u K o hJ hu ho b;have:=h.gd J u hu b;have:=h7 b;have:=k8 b;omega
   simp only [upO] at hu hv
   split at hu
   · rename_i hJ;subst hJ
     rw [if_neg (Ne.symm hJI)] at hv
     simp only [upF,if_true,if_neg (Ne.symm hJI)]
     exact (hkey I v (Ne.symm hJI) hv).symm
   · rename_i hJ
     split at hv
     · rename_i hI;subst hI
       simp only [upF,if_true,if_neg hJ]
       exact hkey J u hJ hu
     · rename_i hI
       simp only [upF,if_neg hJ,if_neg hI]
       exact h.dis J u I v hJI hu hv b
 · simp only [upO] at hu
   split at hu
   · rename_i hJ;subst hJ
     simp only [upF,if_true] at hb
     by_cases h0:0<F J b
     · exact h.own J o ho b h0
     · exact h.go b (by have:=h7 b;have:=k8 b;omega)
   · rename_i hJ
     simp only [upF,if_neg hJ] at hb
     exact h.own J u hu b hb
end
end Go.VK
namespace Go.VK
open AVal
section
variable {P:Program} {Φ:Ctx} {w w':World} {fz al:Nat→Prop} {p s:St} {a:Act} {R:RM} {F:Nat→Foot} {M:List Nat}
theorem ev_keys (hM : ∀t v,lk p.env t=some v → ∀K∈v.keys,K∈M) {T:Nat} {x:Operand} {v:AVal} (h:p.ev Φ T x=some v) : ∀K∈v.keys,K∈M:=by
 intro K hK
 cases x with
 | tmp t=>
   simp only [St.ev] at h
   split at h
   · simp at h
   · rename_i hne
     obtain rfl:=Option.some.inj h
     exact hM t _ (tmp_some rfl hne) K hK
 | const c=>
   rw [(constV_keys (show constV _ _ c=some _ from h)).1] at hK
   simp at hK
 | func f=>simp only [St.ev,Bool.cond_eq_ite] at h;split at h <;> simp only [Option.some.injEq,reduceCtorEq] at h;subst h;simp [AVal.keys,keysL] at hK
 | global g=>simp [St.ev] at h
theorem OwC.cells {E:Env2} {v:AVal} {c:List Value} {g:Foot} (h:OwC w fz E v c g):OwL w fz E v.cells c g:=by
 cases v with
 | agg cs=>simp only [OwC] at h;exact h
 | _=>
   obtain ⟨u,rfl⟩:=OwC.single h rfl
   simp only [AVal.cells,OwL]
   exact ⟨u,[],g,zf,rfl,h,⟨rfl,fun _=>rfl⟩,fun b=>by simp [zf]⟩
theorem beside {E:Env2} {O:OM} {F:Nat→Foot} {G:Foot} (h:RelO w fz al E O R F G) {K:Nat} {o:VObj} (ho:O K=some o) (hbox:o.box=true) (hag:aggQ o.c=true) {i:Nat} {q:List Nat} (hok:o.c.okp (i::q)=true) (hth:o.c.thru (i::q)=true) {b1 o1:Nat} (hw:walk w o.c (R K) (i::q)=some (.mem b1 o1))
 {w1:World} (hs : ∀b,b≠b1→w1.heap[b]? = w.heap[b]?) (y:AVal) {j:Nat} {r:List Nat} (hij:i≠j) {l:VK.Loc} (hl:walk w o.c (R K) (j::r)=some l):walk w1 (o.c.put (i::q) y) (R K) (j::r)=some l∧hdOf w1 l=hdOf w l:=by
 have hobj:=h.obj K o ho
 have hone:=h.one K o ho
 unfold OwO at hobj
 rw [if_pos hbox] at hobj
 obtain ⟨b0,cs0,f',hR,hB,hc,hf⟩:=hobj
 cases hcc:o.c with
 | agg cs=>
   rw [hcc] at hok hth hw hl hc
   rw [hR] at hw hl ⊢
   simp only [OwC] at hc
   simp only [AVal.put,walk,List.length_set,Nat.zero_add] at hw hl ⊢
   split at hw
   · rename_i hi
     split at hl
     · rename_i hj
       obtain ⟨vi,fi,f2,hvi,hxi,hfi,hset⟩:=OwL.at i hc hi
       have h2:=hset .nilp (.pointer none) zf (by simp [OwC,zf])
       obtain ⟨vj,fj,f3,hvj,hxj,hfj,_⟩:=OwL.at j h2 (by simpa using hj)
       have hgj:(cs.set i AVal.nilp).getD j .und=cs.getD j .und:=by simp [List.getD_eq_getElem?_getD,List.getElem?_set_ne hij]
       rw [hgj] at hxj
       rw [List.getElem?_set_ne hij] at hvj
       have hloc : ∀{n:Nat} {v:Value},cs0.toList[n]? = some v→LocAt w (.mem b0 n) [v]:=by
        intro n v hn
        have hlt:n<cs0.toList.length:=by
         rcases Nat.lt_or_ge n cs0.toList.length with h|h
         · exact h
         · rw [List.getElem?_eq_none h] at hn;simp at hn
        refine ⟨cs0,hB.r,by rw [Array.length_toList] at hlt;exact hlt,?_⟩
        have e:cs0.toList[n]=v:=by rw [List.getElem?_eq_getElem hlt] at hn;exact Option.some.inj hn
        rw [List.drop_eq_getElem_cons hlt,e];rfl
       have hoki:(cs.getD i .und).okp q=true:=by
        simp only [AVal.okp,Bool.and_eq_true] at hok;exact hok.2
       have hthi:(cs.getD i .und).thru q=true:=by simpa only [AVal.thru] using hth
       have hle : ∀b,fi b+fj b≤f' b:=fun b=>by
        have h1:=hfi b
        have h2:=hfj b
        simp only [zf] at h2
        omega
       have hone2 : ∀b,f' b≤1:=fun b=>by have:=hone b;rw [hf] at this;omega
       obtain ⟨c1,g1,g2,_,_,hgg,hor⟩:=splice q E _ [vi] fi (.mem b0 i) hxi (hloc hvi) (fun _=>⟨_,_,rfl⟩) (fun b=>by have:=hle b;have:=hone2 b;omega) hoki b1 o1 hw
       have hfib:1≤fi b1:=by
        rcases hor with ⟨hf0,_⟩|⟨h1,_⟩
        · rw [hthi] at hf0;simp at hf0
        · have:=hgg b1;omega
       have hFb:0<F K b1:=by rw [hf];have:=hle b1;omega
       have hne:b0≠b1:=by
        rintro rfl
        have:=hone b0
        rw [hf,if_pos rfl] at this
        have:=hle b0
        omega
       have hs2 : ∀b,0<fj b∨fz b→w1.heap[b]? = w.heap[b]? := fun b hb=>hs b (by
        rintro rfl
        rcases hb with hb|hb
        · have:=hle b;have:=hone2 b;omega
        · exact (h.own K o ho b hFb).2 hb)
       obtain ⟨e1,e2⟩:=walk_same r E (cs.getD j .und) [vj] fj (.mem b0 j) (.inl ⟨fj,fun _=>Nat.le_refl _,hxj⟩) (hloc hvj) (fun _=>⟨_,_,rfl⟩) hs2 (fun b q' he=>by simp only [VK.Loc.mem.injEq] at he;rw [←he.1];exact hs b0 hne)
       have hgj2:(cs.set i ((cs.getD i .und).put q y)).getD j .und=cs.getD j .und:=by simp [List.getD_eq_getElem?_getD,List.getElem?_set_ne hij]
       rw [if_pos hj,hgj2,e1]
       exact ⟨hl,e2 l hl⟩
     · simp at hl
   · simp at hw
 | _=>rw [hcc] at hag;simp [aggQ] at hag
theorem stab_mid2 {s1:St} {O2:OM} {R2:RM} {F1:Nat→Foot} {G1:Foot} {E:Env2} {ki:List (Nat×List Nat)} {kr:List Nat} {K0:Nat} (hm:Mid M s.obj s1) (h1:RelO w fz al E (Amb M s.obj s1) R F1 G1) (hki : ∀y∈s1.ki,y∈ki)
 (hsame : ∀K o,Amb M s.obj s1 K=some o→K∉s1.ka→K≠K0→O2 K=some o∧R2 K=R K ∧ ∀b,(0<F1 K b∨fz b)→w'.heap[b]? = w.heap[b]?)
 (hin : ∀o,Amb M s.obj s1 K0=some o→K0∉s1.ka → ∃o',O2 K0=some o'∧R2 K0=R K0∧(K0∉kr→hdOf w' (R K0)=hdOf w (R K0)) ∧ ∀p,(∀y∈ki,y.1=K0→hitP y.2 p=false) → ∀l,walk w o.c (R K0) p=some l→walk w' o'.c (R K0) p=some l∧hdOf w' l=hdOf w l):Stab w w' s.obj O2 R R2 s1.ka ki kr:=by
 refine ⟨fun K u hu hka => ?_⟩
 have hA : ∃o,Amb M s.obj s1 K=some o∧Kept s1.ki K u.c o.c:=by
  by_cases hK:K∈M
  · obtain ⟨o,ho⟩:=hm.there K u hK hu hka
    refine ⟨o,by simp [Amb,hK,ho],?_⟩
    obtain ⟨u',hu',_,_,h3⟩:=hm.old K o ho
    rw [hu] at hu';obtain rfl:=Option.some.inj hu'
    exact h3
  · exact ⟨u,by simp [Amb,hK,hu],.refl _ _ _⟩
 obtain ⟨o,ho,hc⟩:=hA
 by_cases hk:K=K0
 · subst hk
   obtain ⟨o',h2,h3,h4,h5⟩:=hin o ho hka
   refine ⟨o',h2,h3,h4,fun q hn l hw => ?_⟩
   rw [←hc w (R K) q fun y hy he=>hn y (hki y hy) he] at hw
   exact h5 q hn l hw
 · obtain ⟨h2,h3,h4⟩:=hsame K o ho hka hk
   obtain ⟨c,f0,h5,h6,h7,h8,h9⟩:=(h1.obj K o ho).loc
   have hbl : ∀b,0<f0 b∨fz b→w'.heap[b]? = w.heap[b]? := fun b hb=>h4 b (hb.imp (fun h=>Nat.lt_of_lt_of_le h (h8 b)) id)
   have hloc : ∀b q,R K=.mem b q→w'.heap[b]? = w.heap[b]? := fun b q hbq=>h4 b (.inl (h9 b q hbq))
   refine ⟨o,h2,h3,fun _=>hdOf_same hloc,fun q hn l hw => ?_⟩
   obtain ⟨e1,e2⟩:=walk_same q _ o.c c f0 (R K) (.inl ⟨f0,fun _=>Nat.le_refl _,h5⟩) h6 h7 hbl hloc
   rw [←hc w (R K) q fun y hy he=>hn y (hki y hy) he] at hw
   exact ⟨by rw [e1];exact hw,e2 l hw⟩
theorem storeAt_ok {o:Oper} {K:Nat} {q:List Nat} {off:Option Nat} {many:Bool} {x:AVal} {t:Nat} {T:TI} {A X:Operand} {s2:St} {e:Eff} (hr:Rel w fz al s.env a.tmps s.obj R F) (ht:TF P t T) (hm:Mid M s.obj p) (hA:Amb M s.obj p=s.obj)
 (ho:o.op=.store t A X) (ha:EvV w fz s.obj R (.ptr K q off) (a.eval A)) (hx:EvV w fz s.obj R x (a.eval X)) (hK:K∈M) (hxM : ∀J∈x.keys,J∈M) (_hpe:p.ki=[]∧p.kr=[]∧p.ka=[])
 (hsz:(a.eval X).cells.size=T.cts.length) (hone:many=false→(a.eval X).oneCell'=true)
 (h:storeAt p K q off many x=some (true,s2)) (he:e.objs=s2.objs∧e.ka=s2.ka∧e.ki=s2.ki∧e.kr=s2.kr) (hv:e.v=none):RunsTo P a o w fz al s R M e:=by
 unfold storeAt at h
 cases htk:p.take x with
 | none=>rw [htk] at h;simp at h
 | some r=>
   obtain ⟨v,s1⟩:=r
   rw [htk] at h
   simp only at h
   obtain ⟨F1,g,h1,h2,hm1,h4,h5,_,hkr⟩:=take_ok x p v s1 F zf (a.eval X) htk hxM hx hm (by rw [hA];exact hr.toO)
   have e0:(fun b=>zf b+g b)=g:=by funext b;simp [zf]
   rw [e0] at h1
   cases hob:s1.obj K with
   | none=>rw [hob] at h;simp at h
   | some ob=>
     rw [hob] at h
     simp only at h
     have hob':lk s1.objs K=some ob:=hob
     have hAm:Amb M s.obj s1 K=some ob:=by simp [Amb,hK,hob']
     obtain ⟨u,hu,hbox,hho,hki⟩:=hm1.old K ob hob'
     simp only [EvV,EvR,EvP] at ha
     obtain ⟨u',b1,o1,hu',hwk,hav⟩:=ha
     rw [hu] at hu';obtain rfl:=Option.some.inj hu'
     cases hth:(ob.c.thru q && !(pureV v)) with
     | true=>rw [hth] at h;simp at h
     | false=>
       rw [hth] at h
       simp only [cond_false] at h
       obtain ⟨hvc,hvs⟩:=h2.own
       have main : ∀(off0:Nat) (y:AVal) (hokp:ob.c.okp q=true),(ob.c.get q=y→True)→off0=off.getD 0 →
        (∀(w1:World) (c1:List Value) (g1:Foot),(∀b,0<g1 b∨0<g b∨fz b→w1.heap[b]? = w.heap[b]?)→OwC w fz (deepE (EvR w s.obj R) ob.c q) (ob.c.get q) c1 g1→off0+v.cells.length≤c1.length ∧ ∃f3:Foot,(∀b,f3 b≤g1 b+g b)∧OwC w1 fz (deepE (EvR w s.obj R) ob.c q) y (setManyV c1 off0 (a.eval X).cells.toList) f3) →
        (e.objs=ins s1.objs K { ob with c:=ob.c.put q y }∧e.ka=s1.ka∧e.ki=(K,bif ob.box&&(aggQ ob.c&&ob.c.thru q) then q.take 1 else [])::s1.ki∧e.kr=bif ob.c.thru q then s1.kr else K::s1.kr)→RunsTo P a o w fz al s R M e:=by
        intro off0 y hokp _ hoff hy hee
        have hwk1:walk w ob.c (R K) q=some (.mem b1 o1):=by rw [hho.walk _ _ hokp];exact hwk
        obtain ⟨c1,g1,cs,el,fr,k1,k2,k3,k4,k5,k6,k7,k8,k9⟩:=h1.store hAm hokp hwk1
        have hle:=(hy w c1 g1 (fun _ _=>rfl) k1).1
        have hnl:(a.eval X).cells.toList.length=v.cells.length:=by simpa using hvs
        obtain ⟨w1,hw1⟩ : ∃w1,w1=w.setCells b1 (o1+off0) (a.eval X).cells.toList:=⟨_,rfl⟩
        obtain ⟨m1,m2,m3,m4,m5,m6⟩:=set_cells (a.eval X).cells.toList (o1+off0) w cs k2
        rw [←hw1] at m1 m2 m3 m4 m5 m6
        have hset:=set_part k5 (by simpa using k4) (show off0+(a.eval X).cells.toList.length≤c1.length by rw [hnl];exact hle)
        have hB:Blk w b1 cs:=⟨el,fr,k2,k3⟩
        have hrun:(execOp a.eval o).run P w=.ok .skip w1:=by
         have hst:=run_storeCells_cells (P:=P) b1 (o1+off0) (a.eval X).cells.toList 0 w (fun j hj=>by rw [hB.r.cell,Array.getElem?_eq_getElem (by omega)];rfl) (fun j hj=>hB.unfrozen (by omega)) (OwC.ones _ _ _ hvc)
         simp only [Nat.add_zero] at hst
         simp only [execOp,ho,hav,←hoff,Instr.storeAt,Instr.sureAddr,Sem.run_bind,Sem.run_pure,Result.andThen_ok,storeVar,ht.size,hsz,ne_eq,not_true_eq_false,if_false,hst,hw1]
        have hfzb : ∀b,fz b→b≠b1:=fun b hb he=>(h1.own K ob hAm b1 k7).2 (he▸hb)
        have hgd:g b1=0:=by have:=h1.gd K ob hAm b1;omega
        obtain ⟨_,f3,hf3,hyw⟩:=hy w1 c1 g1 (fun b hb=>m2 b (fun he=>by subst he;exact hb.elim (fun hb=>by omega) (fun hb=>hb.elim (fun hb=>by omega) (fun hb=>hfzb b hb rfl)))) k1
        have hcl:(setManyV c1 off0 (a.eval X).cells.toList).length=c1.length:=setManyV_length _ _ _
        have hcs':(setManyV cs.toList (o1+off0) (a.eval X).cells.toList).toArray.size=cs.size:=by simp [setManyV_length]
        obtain ⟨n1,n2⟩:=k9 w1 _ _ y f3 hcl hcs' (by simpa using hset) m2 m1 m3 hyw hf3
        have hmix:Mix M s.obj e.objs=upO (Amb M s.obj s1) K (some { ob with c:=ob.c.put q y }):=by
         funext J
         simp only [Mix,Amb,upO,hee.1,lk_ins]
         by_cases hJ:J=K
         · subst hJ;simp [hK]
         · simp [hJ]
        have halb:al b1:=(h1.own K ob hAm b1 k7).1
        refine ⟨.skip,undef,w1,hrun,.inr ⟨rfl,rfl⟩,fz,R,_,⟨by rw [hmix];exact n1,fun J u hu => ?_,fun b hb=>⟨hb,m2 b (hfzb b hb)⟩,?_,⟨m4,m5,m6,by rw [m3];exact Nat.le_refl _,fun b _ hb=>m2 b (by rintro rfl;exact hb halb)⟩⟩,fun x hx=>by rw [hv] at hx;simp at hx,fun b hb=>.inl hb,fun _ _=>rfl⟩
        · rw [hee.1,lk_ins] at hu
          split at hu
          · rename_i hJ;rw [hJ];exact hK
          · exact hm1.seen J u hu
        · rw [hee.2.1,hee.2.2.1,hee.2.2.2,hmix]
          refine stab_mid2 (K0:=K) hm1 h1 (fun J hJ=>List.mem_cons_of_mem _ hJ) (fun J u hu _ hJK => ?_) (fun u hu _ => ?_)
          · refine ⟨by simp only [upO,if_neg hJK];exact hu,rfl,fun b hb=>m2 b (fun he => ?_)⟩
            subst he
            rcases hb with hb|hb
            · have:=h1.dis J u K ob hJK hu hAm b;omega
            · exact hfzb b hb rfl
          · rw [hAm] at hu
            obtain rfl:=Option.some.inj hu
            refine ⟨{ ob with c:=ob.c.put q y },by simp only [upO,if_true],rfl,fun hn=>n2 ?_,fun p' hn l hl => ?_⟩
            · cases hq:ob.c.thru q with
              | true=>rfl
              | false=>rw [hq] at hn;simp at hn
            · have hh:=hn _ (List.mem_cons_self ..) rfl
              cases hcd:(ob.box&&(aggQ ob.c&&ob.c.thru q)) with
              | false=>rw [hcd] at hh;cases p' <;> simp [hitP] at hh
              | true=>
                rw [hcd] at hh
                simp only [Bool.and_eq_true] at hcd
                obtain ⟨hb1,hb2,hb3⟩:=hcd
                cases q with
                | nil=>cases p' <;> simp [hitP] at hh
                | cons i q=>
                  cases p' with
                  | nil=>
                    rw [walk_nil] at hl ⊢
                    obtain rfl:=Option.some.inj hl
                    exact ⟨rfl,n2 hb3⟩
                  | cons j r=>
                    have hij:i≠j:=by
                     rintro rfl
                     have hz:Nat.ble 0 r.length=true:=Nat.ble_eq_true_of_le (Nat.zero_le _)
                     simp [hitP,hz] at hh
                    exact beside h1 hAm hb1 hb2 hokp hb3 hwk1 m2 y hij hl
       have toE:ob.c.okp q=true→OwC w fz (deepE (EvR w s.obj R) ob.c q) v (a.eval X).cells.toList g:=by
        intro hokp
        cases hq:ob.c.thru q with
        | true=>
          rw [hq] at hth
          simp only [Bool.true_and,Bool.not_eq_false'] at hth
          exact pure_E _ _ _ hth hvc
        | false=>rw [deepE_flat _ _ _ hokp hq];exact hvc
       have mono1 : ∀{w1:World} {E:Env2} {x:AVal} {c:List Value} {f g1:Foot},(∀b,f b≤g1 b+g b)→(∀b,0<g1 b∨0<g b∨fz b→w1.heap[b]? = w.heap[b]?)→OwC w fz E x c f→OwC w1 fz E x c f:=by
        intro w1 E x c f g1 hf hw h
        exact OwC.mono (fun b hb=>⟨hb,hw b (.inr (.inr hb))⟩) _ _ _ (fun _ _ _ h=>h) _ _ (fun b hb=>hw b (by have:=hf b;omega)) h
       cases hmo:(many||off.isSome) with
       | true=>
         rw [hmo] at h
         simp only [cond_true,Option.some.injEq,Prod.mk.injEq,Bool.and_eq_true,Nat.ble_eq] at h
         obtain ⟨⟨hokp,hag,hle⟩,rfl⟩:=h
         refine main (off.getD 0) _ hokp (fun _=>trivial) rfl (fun w1 c1 g1 hw hy => ?_) ⟨he.1,he.2.1,he.2.2.1,he.2.2.2⟩
         have hcl:=hy.cells
         have hl:=hcl.length
         obtain ⟨f3,r1,r2⟩:=hcl.setMany (off.getD 0) (toE hokp).cells hle
         refine ⟨by rw [hl];exact hle,f3,r1,mono1 r1 hw ?_⟩
         simp only [OwC];exact r2
       | false=>
         rw [hmo] at h
         simp only [cond_false,Option.some.injEq,Prod.mk.injEq,Bool.and_eq_true,Bool.not_eq_true'] at h
         obtain ⟨⟨hokp,hag⟩,rfl⟩:=h
         simp only [Bool.or_eq_false_iff] at hmo
         have hoff:off=none:=by cases off with|none=>rfl|some _=>simp at hmo
         have h1c:=cells_one (hone hmo.1)
         refine main 0 _ hokp (fun _=>trivial) (by rw [hoff];rfl) (fun w1 c1 g1 hw hy => ?_) ⟨he.1,he.2.1,he.2.2.1,he.2.2.2⟩
         obtain ⟨u0,rfl⟩:=OwC.single hy hag
         have hvl:v.cells.length=1:=by rw [←hvs,h1c];rfl
         refine ⟨by rw [hvl];simp,g,fun b=>by omega,?_⟩
         have:=mono1 (w1:=w1) (g1:=g1) (f:=g) (fun b=>by omega) hw (toE hokp)
         rw [h1c] at this ⊢
         simpa [setManyV] using this
theorem storeAt_run {o:Oper} {K:Nat} {q:List Nat} {off:Option Nat} {many:Bool} {x:AVal} {t:Nat} {T:TI} {A X:Operand} {s2:St} (hr:Rel w fz al s.env a.tmps s.obj R F) (ht:TF P t T) (hm:Mid M s.obj p) (hA:Amb M s.obj p=s.obj)
 (ho:o.op=.store t A X) (ha:EvV w fz s.obj R (.ptr K q off) (a.eval A)) (hx:EvV w fz s.obj R x (a.eval X)) (hK:K∈M) (hxM : ∀J∈x.keys,J∈M)
 (hsz:(a.eval X).cells.size=T.cts.length) (hone:many=false→(a.eval X).oneCell'=true)
 (h:storeAt p K q off many x=some (true,s2)) : ∃b q1,a.eval A=.pointer (some ⟨b,q1,none⟩)∧0<F K b ∧ ∀w0:World,w0.heap[b]? = w.heap[b]? → (execOp a.eval o).run P w0=.ok .skip (w0.setCells b q1 (a.eval X).cells.toList):=by
 unfold storeAt at h
 cases htk:p.take x with
 | none=>rw [htk] at h;simp at h
 | some r=>
   obtain ⟨v,s1⟩:=r
   rw [htk] at h
   simp only at h
   obtain ⟨F1,g,h1,h2,hm1,h4,h5,_,hkr⟩:=take_ok x p v s1 F zf (a.eval X) htk hxM hx hm (by rw [hA];exact hr.toO)
   have e0:(fun b=>zf b+g b)=g:=by funext b;simp [zf]
   rw [e0] at h1
   cases hob:s1.obj K with
   | none=>rw [hob] at h;simp at h
   | some ob=>
     rw [hob] at h
     simp only at h
     have hob':lk s1.objs K=some ob:=hob
     have hAm:Amb M s.obj s1 K=some ob:=by simp [Amb,hK,hob']
     obtain ⟨u,hu,hbox,hho,hki⟩:=hm1.old K ob hob'
     simp only [EvV,EvR,EvP] at ha
     obtain ⟨u',b1,o1,hu',hwk,hav⟩:=ha
     rw [hu] at hu';obtain rfl:=Option.some.inj hu'
     cases hth:(ob.c.thru q && !(pureV v)) with
     | true=>rw [hth] at h;simp at h
     | false=>
       rw [hth] at h
       simp only [cond_false] at h
       obtain ⟨hvc,hvs⟩:=h2.own
       have hnl:(a.eval X).cells.toList.length=v.cells.length:=by simpa using hvs
       have main : ∀(off0:Nat) (hokp:ob.c.okp q=true),off0=off.getD 0→(∀c1 g1,OwC w fz (deepE (EvR w s.obj R) ob.c q) (ob.c.get q) c1 g1→off0+v.cells.length≤c1.length) →
        ∃b q1,a.eval A=.pointer (some ⟨b,q1,none⟩)∧0<F K b ∧ ∀w0:World,w0.heap[b]? = w.heap[b]? → (execOp a.eval o).run P w0=.ok .skip (w0.setCells b q1 (a.eval X).cells.toList):=by
        intro off0 hokp hoff hy
        have hwk1:walk w ob.c (R K) q=some (.mem b1 o1):=by rw [hho.walk _ _ hokp];exact hwk
        obtain ⟨c1,g1,cs,el,fr,k1,k2,k3,k4,k5,k6,k7,k8,k9⟩:=h1.store hAm hokp hwk1
        have hle:=hy c1 g1 k1
        refine ⟨b1,o1+off0,by rw [hav,hoff],Nat.lt_of_lt_of_le k7 (h5 K b1),fun w0 hw0 => ?_⟩
        have hB:Blk w0 b1 cs:=⟨el,fr,by rw [hw0];exact k2,k3⟩
        have hst:=run_storeCells_cells (P:=P) b1 (o1+off0) (a.eval X).cells.toList 0 w0 (fun j hj=>by rw [hB.r.cell,Array.getElem?_eq_getElem (by omega)];rfl) (fun j hj=>hB.unfrozen (by omega)) (OwC.ones _ _ _ hvc)
        simp only [Nat.add_zero] at hst
        simp only [execOp,ho,hav,←hoff,Instr.storeAt,Instr.sureAddr,Sem.run_bind,Sem.run_pure,Result.andThen_ok,storeVar,ht.size,hsz,ne_eq,not_true_eq_false,if_false,hst]
       cases hmo:(many||off.isSome) with
       | true=>
         rw [hmo] at h
         simp only [cond_true,Option.some.injEq,Prod.mk.injEq,Bool.and_eq_true,Nat.ble_eq] at h
         obtain ⟨⟨hokp,hag,hle⟩,rfl⟩:=h
         exact main (off.getD 0) hokp rfl fun c1 g1 hy=>by rw [hy.cells.length];exact hle
       | false=>
         rw [hmo] at h
         simp only [cond_false,Option.some.injEq,Prod.mk.injEq,Bool.and_eq_true,Bool.not_eq_true'] at h
         obtain ⟨⟨hokp,hag⟩,rfl⟩:=h
         simp only [Bool.or_eq_false_iff] at hmo
         have hoff:off=none:=by cases off with|none=>rfl|some _=>simp at hmo
         have h1c:=cells_one (hone hmo.1)
         refine main 0 hokp (by rw [hoff];rfl) fun c1 g1 hy => ?_
         obtain ⟨u0,rfl⟩:=OwC.single hy hag
         have hvl:v.cells.length=1:=by rw [←hvs,h1c];rfl
         rw [hvl];simp
end
end Go.VK
namespace Go.VK
open AVal
section
variable {P:Program} {Φ:Ctx} {w w':World} {fz al:Nat→Prop} {p s:St} {a:Act} {R:RM} {F:Nat→Foot} {M:List Nat}
theorem slice_agg (hT:TOK P Φ) {t e:Nat} {T:TI} (ht:Φ.ti t=some T) (he:T.elem=some e):T.agg=false:=by
 obtain ⟨i,d,z,h1,h2,h3,h4,h5,h6,h7⟩:=(hT.tf ht).info
 cases hg:T.agg with
 | false=>rfl
 | true=>cases d <;> simp [descOK,hg,he] at h7
theorem row_facts (hT:TOK P Φ) {t el sz:Nat} {T E:TI} (ht:Φ.ti t=some T) (he:T.elem=some el) (hc:T.cts=[.slice sz]) (hE:Φ.ti el=some E) :
 ∃(i:TypeInfo) (z:Value),P.underlying t=some (.slice el)∧P.info? el=some i∧i.zero=some z∧i.size=sz∧z.cells.size=sz∧i.bytes=E.bytes:=by
 obtain ⟨el',i,hu,hel',hi,his⟩:=(hT.tf ht).slice (slice_agg hT ht he) hc
 rw [he] at hel';obtain rfl:=Option.some.inj hel'
 obtain ⟨j,dd,z,g1,g2,g3,g4,g5,g6,g7⟩:=(hT.tf hE).info
 rw [hi] at g1;obtain rfl:=Option.some.inj g1
 have : ∀(cs:List CT) (vs:List Value),zsOK cs vs=true→vs.length=cs.length:=by
  intro cs
  induction cs with
  | nil=>intro vs h;cases vs <;> simp [zsOK] at h ⊢
  | cons c cs ih=>intro vs h;cases vs <;> simp [zsOK] at h ⊢;exact ih _ h.2
 have h:=this _ _ g6
 exact ⟨i,z,hu,hi,g5,his,by rw [←his,g3,←h];simp,g4⟩
theorem rowOK_iff {sz n:Nat} {vs:List AVal} (h:rowOK sz n vs=true):(vs.all fun v=>Nat.beq v.cells.length sz)=true∧n*sz≤16777216:=by
 simpa only [rowOK,Bool.and_eq_true,Nat.ble_eq] using h
theorem elem_info (hT:TOK P Φ) {t el sz:Nat} {T:TI} (ht:Φ.ti t=some T) (he:T.elem=some el) (hc:T.cts=[.slice sz]) : ∃i,P.underlying t=some (.slice el)∧P.info? el=some i∧i.size=sz:=by
 obtain ⟨el',i,hu,hel',hi,his⟩:=(hT.tf ht).slice (slice_agg hT ht he) hc
 rw [he] at hel';obtain rfl:=Option.some.inj hel'
 exact ⟨i,hu,hi,his⟩
theorem new_row (hT:TOK P Φ) (hr:Rel w fz al s.env a.tmps s.obj R F) (hp:Sub p s) (hal : ∀b,w.heap.size≤b→al b) {o:Oper} {e:Eff} {d t el sz n:Nat} {T E:TI} {parts:Array (Nat×Operand)} {vs:List AVal} (ho:o.op=.buildSlice t n parts) (ht:Φ.ti t=some T) (hel:T.elem=some el) (hc:T.cts=[.slice sz]) (hE:Φ.ti el=some E)
 (hvs:evList Φ p el parts.toList 0=some vs) (hn:vs.length=n) (hb:vs.all boxOK=true) (hsz:0<sz) (hrow:rowOK sz n vs=true)
 (hfr:s.obj d=none) (hd:d<passBase) (hmix:Mix M s.obj e.objs=upO s.obj d (some { box:=false,c:=.own sz vs })) (hsub : ∀K o,lk e.objs K=some o→K∈M) (hk:e.ka=[]∧e.ki=[]∧e.kr=[]) (hv:e.v=some (.ref d [])):RunsTo P a o w fz al s R M e:=by
 obtain ⟨i,z,hu,hi,hz,his,hzs,_⟩:=row_facts hT ht hel hc hE
 obtain ⟨vals,h1,h2⟩:=evList_ok hr hp hvs
 obtain ⟨hr1,hr2⟩:=rowOK_iff hrow
 obtain ⟨h3,h4,h5⟩:=row_own [] vs vals zf (box_hands (E:=NoE) hr.lt hb h2) hr1 (boxOKs_pure hb)
 have hparts:(parts.map fun (x:Nat×Operand)=>(x.1,a.eval x.2)).toList=(vals.zipIdx 0).map fun x=>(x.2,x.1):=by simpa using h1
 have hrun:=run_row (w:=w) hu hi hz hparts (by rw [h4,hn]) (by omega) (by rw [his];exact hr2) (by rw [his];exact h5)
 have hfl:(vals.flatMap fun v=>v.cells.toList).length=vs.length*sz:=by
  have : ∀l:List Value,(∀v∈l,v.cells.size=sz)→(l.flatMap fun v=>v.cells.toList).length=l.length*sz:=by
   intro l
   induction l with
   | nil=>intro _;simp
   | cons x l ih=>
     intro h
     rw [List.flatMap_cons,List.length_append,ih fun v hv=>h v (by simp [hv]),List.length_cons,Nat.add_mul]
     have:=h x (by simp);simp [this];omega
  rw [this vals h5,h4]
 have hg:=grow_push w al (.cells (vals.flatMap fun v=>v.cells.toList).toArray el (0,0)) w.drawn
 refine new_slice (n:=w.drawn) (sz:=sz) (cap:=vs.length) (xs:=vs) (cs:=(vals.flatMap fun v=>v.cells.toList).toArray) (el:=el) (fr:=(0,0)) hr hal hfr hd hmix hsub hk hv ?_ (fun o _ h=>by simp at h) (Nat.le_refl _) hsz (by simp only [List.size_toArray,hfl];exact Nat.le_refl _) ?_
 · simp only [execOp,ho]
   refine run_v ?_
   rw [hn]
   exact hrun
 · simp only [List.append_nil] at h3
   exact OwX.mono (fun b hb=>⟨hb,hg.same b (hr.lt b hb)⟩) _ _ _ (fun _ _ _ h=>h) _ _ _ (fun b hb=>by simp [zf] at hb) h3
theorem new_map (hr:Rel w fz al s.env a.tmps s.obj R F) (hal : ∀b,w.heap.size≤b→al b) {o:Oper} {e:Eff} {d t:Nat} {c:CT} (hkc:mapCT c=true) (ho:o.op=.makeMap t none)
 (hfr:s.obj d=none) (hd:d<passBase) (hmix:Mix M s.obj e.objs=upO s.obj d (some { box:=false,c:=.mp c [] })) (hsub : ∀K o,lk e.objs K=some o→K∈M) (hk:e.ka=[]∧e.ki=[]∧e.kr=[]) (hv:e.v=some (.ref d [])):RunsTo P a o w fz al s R M e:=by
 have hrun:(execOp a.eval o).run P w=.ok (.value (.map (some w.heap.size))) { w with heap:=w.heap.push (.map #[] 0),drawn:=w.drawn }:=by
  simp only [execOp,ho]
  refine run_v ?_
  simp only [Option.map_none]
  simp [Instr.makeMap]
 refine ⟨_,_,_,hrun,.inl rfl,fz,_,_,effOK_new (l:=.val (.map (some w.heap.size))) (f:=fun i=>if i=w.heap.size then 1 else 0) hr (grow_push w al _ _) hfr hmix hsub hk ?_ (fun b=>by split <;> omega) (fun b hb => ?_),?_,fun b hb=>.inl hb,fun K hK => ?_⟩
 · unfold OwO;rw [if_neg (by simp)]
   refine ⟨_,rfl,?_,rfl⟩
   simp only [OwC]
   exact (MpC.map hkc).2 ⟨w.heap.size,#[],0,rfl,by simp,⟨by simp,by simp,by simp⟩,fun i=>rfl⟩
 · by_cases h:b=w.heap.size
   · subst h;exact ⟨Nat.le_refl _,hal _ (Nat.le_refl _)⟩
   · rw [if_neg h] at hb;omega
 · intro x hx
   rw [hv] at hx;obtain rfl:=Option.some.inj hx
   rw [hmix]
   simp only [EvV,EvR,EvP]
   exact ⟨{ box:=false,c:=.mp c [] },.val _,by simp [upO],by simp [upR,walk_nil],rfl,rfl⟩
 · simp only [upR];rw [if_neg (by omega)]
theorem new_bld (hT:TOK P Φ) (hr:Rel w fz al s.env a.tmps s.obj R F) (hal : ∀b,w.heap.size≤b→al b) {o:Oper} {e:Eff} {d t e0:Nat} (ho:o.op=.alloc t) (ht:Φ.bldT t=some e0)
 (hfr:s.obj d=none) (hd:d<passBase) (hmix:Mix M s.obj e.objs=upO s.obj d (some { box:=false,c:=.mp .oth (bldMk t e0 ByteArray.empty) })) (hsub : ∀K o,lk e.objs K=some o→K∈M) (hk:e.ka=[]∧e.ki=[]∧e.kr=[]) (hv:e.v=some (.ref d [])):RunsTo P a o w fz al s R M e:=by
 unfold Ctx.bldT at ht
 split at ht
 · rename_i T e1 _ _ _ _ _ hti
   simp only [Bool.cond_eq_ite] at ht
   split at ht
   · rename_i hTt
     have hTt:=Nat.eq_of_beq_eq_true hTt
     subst hTt
     obtain rfl:=Option.some.inj ht
     obtain ⟨z,h1,h2,h3⟩:=(hT.tf hti).zero
     have hz:z.cells = #[.pointer none,.slice none 0 0]:=by
      apply Array.toList_inj.1
      cases hzz:z.cells.toList with
      | nil=>rw [hzz] at h2;simp [zsOK] at h2
      | cons v vs=>
        cases vs with
        | nil=>rw [hzz] at h2;simp [zsOK] at h2
        | cons v2 vs=>
          cases vs with
          | cons _ _=>rw [hzz] at h2;simp [zsOK] at h2
          | nil=>
            rw [hzz] at h2
            simp only [zsOK,Bool.and_eq_true] at h2
            obtain ⟨k1,k2,_⟩:=h2
            have e1:v=.pointer none:=by
             cases v with
             | pointer a=>cases a with|none=>rfl|some a=>simp [zOK] at k1
             | _=>simp [zOK] at k1
            have e2:v2=.slice none 0 0:=by
             cases v2 with
             | slice a n c=>cases a <;> cases n <;> cases c <;> simp [zOK] at k2 ⊢
             | _=>simp [zOK] at k2
            rw [e1,e2]
     have hrun:(execOp a.eval o).run P w=.ok (.value (.pointer (some ⟨w.heap.size,0,none⟩))) { w with heap:=w.heap.push (.cells z.cells T (0,0)),drawn:=w.drawn }:=by
      simp only [execOp,ho]
      refine run_v ?_
      simp only [Instr.alloc,Sem.run_bind,h1,Result.andThen_ok,newVar,newRow,run_newObj,Sem.run_pure]
     refine ⟨_,_,_,hrun,.inl rfl,fz,_,_,effOK_new (l:=.val (.pointer (some ⟨w.heap.size,0,none⟩))) (f:=fun i=>if i=w.heap.size then 1 else 0) hr (grow_push w al _ _) hfr hmix hsub hk ?_ (fun b=>by split <;> omega) (fun b hb => ?_),?_,fun b hb=>.inl hb,fun K hK => ?_⟩
     · unfold OwO;rw [if_neg (by simp)]
       refine ⟨_,rfl,?_,rfl⟩
       simp only [OwC]
       refine ⟨ByteArray.empty,T,e1,w.heap.size,.pointer none,.slice none 0 0,rfl,rfl,.inl rfl,by simp [hz],?_,by simp [Value.ownBlock],fun i=>by simp [Value.ownBlock]⟩
       exact World.ownsRow_nil _ _ _ _
     · by_cases h:b=w.heap.size
       · subst h;exact ⟨Nat.le_refl _,hal _ (Nat.le_refl _)⟩
       · rw [if_neg h] at hb;omega
     · intro x hx
       rw [hv] at hx;obtain rfl:=Option.some.inj hx
       rw [hmix]
       simp only [EvV,EvR,EvP]
       exact ⟨{ box:=false,c:=.mp .oth (bldMk T e1 ByteArray.empty) },.val _,by simp [upO],by simp [upR,walk_nil],rfl,rfl⟩
     · simp only [upR];rw [if_neg (by omega)]
   · simp at ht
 · simp at ht
theorem calm_new (hT:TOK P Φ) (hr:Rel w fz al s.env a.tmps s.obj R F) (hp:Sub p s) (hal : ∀b,w.heap.size≤b→al b) {o:Oper} {d:Nat} {c:Calm} {ob:VObj} {e:Eff} (h:calm Φ p o d=some c) (hc:c.cond=true) (hn:c.o=some ob)
 (hfr:s.obj d=none) (hd:d<passBase) (hmix:Mix M s.obj e.objs=upO s.obj d (some ob)) (hsub : ∀K o,lk e.objs K=some o→K∈M) (hk:e.ka=[]∧e.ki=[]∧e.kr=[]) (hv:e.v=some c.v):RunsTo P a o w fz al s R M e:=by
 unfold calm at h
 split at h
 · obtain ⟨v,h1,rfl⟩:=bind_calmV h;simp at hn
 · obtain ⟨v,h1,rfl⟩:=bind_calmV h;simp at hn
 · split at h
   · obtain ⟨v,h1,rfl⟩:=bind_calmV h;simp at hn
   · obtain ⟨v,h1,rfl⟩:=bind_calmV h;simp at hn
   · simp at h
 · rename_i t ho
   split at h
   · rename_i e0 ht
     simp only [Option.some.injEq] at h;subst h
     simp only [Option.some.injEq] at hn;subst hn
     exact new_bld hT hr hal ho ht hfr hd hmix hsub hk hv
   split at h
   · rename_i T ht
     simp only [Option.some.injEq] at h;subst h
     simp only [Option.some.injEq] at hn;subst hn
     exact new_alloc hT hr hal ho ht hfr hd hmix hsub hk hv
   · simp at h
 · rename_i t x ho
   split at h
   · rename_i v hx
     cases hkk:boxOK v with
     | false=>rw [hkk] at h;simp at h
     | true=>
       rw [hkk] at h;simp only [cond_true,Option.some.injEq] at h;subst h
       simp only [Option.some.injEq] at hn;subst hn
       exact new_boxed hr hp hal ho hx hkk hfr hd hmix hsub hk hv
   · simp at h
 · split at h
   · split at h
     · simp only [Bool.cond_eq_ite] at h
       split at h
       · simp only [calmV,Option.some.injEq] at h;subst h;simp at hn
       · simp at h
     · simp at h
   · simp at h
 · rename_i t n parts ho
   split at h
   · rename_i el sz _ _ _ ht
     split at h
     · rename_i vs hvs
       simp only [Bool.cond_eq_ite] at h
       split at h
       · rename_i hb
         simp only [Option.some.injEq] at h;subst h
         simp only [Option.some.injEq] at hn;subst hn
         simp only [Bool.and_eq_true,Nat.blt_eq] at hb hc
         obtain ⟨E,hE⟩:=Option.isSome_iff_exists.1 hc.2.2
         exact new_row hT hr hp hal ho ht rfl rfl hE hvs (Nat.eq_of_beq_eq_true hb.1) hb.2 hc.1 hc.2.1 hfr hd hmix hsub hk hv
       · simp at h
     · simp at h
   · simp at h
 · split at h
   · split at h
     · simp only [Option.some.injEq] at h;subst h;simp at hn
     · simp at h
   · simp at h
 · split at h
   · simp only [calmV,Option.some.injEq] at h;subst h;simp at hn
   · simp only [calmV,Option.some.injEq] at h;subst h;simp at hn
   · simp at h
 · split at h
   · obtain ⟨v,h1,rfl⟩:=bind_calmV h;simp at hn
   · simp only [Bool.cond_eq_ite] at h
     split at h
     · simp at h
     · split at h
       · simp only [Option.some.injEq] at h;subst h;simp at hn
       · simp at h
   · simp only [Bool.cond_eq_ite] at h
     split at h
     · simp at h
     · split at h
       · simp only [Option.some.injEq] at h;subst h;simp at hn
       · simp at h
   · simp at h
 · split at h
   · split at h
     · simp only [calmV,Option.some.injEq] at h;subst h;simp at hn
     · simp at h
   · simp at h
 · rename_i t u x ho
   split at h
   · simp only [calmV,Option.some.injEq] at h;subst h;simp at hn
   · simp only [calmV,Option.some.injEq] at h;subst h;simp at hn
   · split at h
     · simp only [Option.some.injEq] at h;subst h;simp at hn
     · simp at h
   · rename_i h1 h2 h3
     split at h
     · rename_i h4
       simp only [Option.some.injEq] at h;subst h
       simp only [Option.some.injEq] at hn;subst hn
       exact new_bytes hT hr hp hal ho h1 h2 rfl rfl rfl h4 rfl rfl h3 hfr hd hmix hsub hk hv
     · simp at h
   · simp at h
 · rename_i t x y ho
   split at h
   · rename_i h1 h2 h3
     split at h
     · rename_i E hE
       simp only [Option.some.injEq] at h;subst h
       simp only [Option.some.injEq] at hn;subst hn
       simp only [Bool.and_eq_true,Nat.blt_eq,decide_eq_true_eq] at hc
       exact new_made hT hr hp hal ho h1 rfl rfl hE h2 h3 hc.1 hc.2.1 hc.2.2.1 hc.2.2.2.1 hc.2.2.2.2 hfr hd hmix hsub hk hv
     · simp at h
   · simp at h
 · split at h
   · simp only [Bool.cond_eq_ite] at h
     split at h
     · simp at h
     · split at h
       · simp only [Option.some.injEq] at h;subst h;simp at hn
       · simp at h
   · simp at h
 · split at h
   · split at h
     · simp only [calmV,Option.some.injEq] at h;subst h;simp at hn
     · simp at h
   · split at h
     · simp only [calmV,Option.some.injEq] at h;subst h;simp at hn
     · simp at h
   · simp at h
 · split at h
   · split at h
     · split at h
       · simp only [Bool.cond_eq_ite] at h
         split at h
         · simp only [calmV,Option.some.injEq] at h;subst h;simp at hn
         · split at h
           · simp only [calmV,Option.some.injEq] at h;subst h;simp at hn
           · simp at h
       · simp at h
     · simp at h
   · simp at h
 · split at h
   · split at h
     · simp only [Option.some.injEq] at h;subst h;simp at hn
     · simp at h
   · simp at h
 · split at h
   · simp only [Bool.cond_eq_ite] at h
     split at h
     · simp at h
     · simp only [Option.some.injEq] at h;subst h;simp at hn
   · simp at h
 · rename_i t ho
   split at h
   · rename_i hmt
     simp only [Option.some.injEq] at h;subst h
     simp only [Option.some.injEq] at hn;subst hn
     exact new_map hr hal (mapT_inv hT hmt).kc ho hfr hd hmix hsub hk hv
   · simp at h
 · split at h
   · split at h
     · split at h
       · simp only [Option.some.injEq] at h;subst h;simp at hn
       · simp at h
     · simp at h
   · simp at h
 · split at h
   · simp only [calmV,Option.some.injEq] at h;subst h;simp at hn
   · simp at h
 · split at h
   · simp only [Bool.cond_eq_ite] at h
     split at h
     · split at h
       · simp at h
       · simp only [calmV,Option.some.injEq] at h;subst h;simp at hn
     · split at h
       · split at h
         · simp only [calmV,Option.some.injEq] at h;subst h;simp at hn
         · simp at h
       · simp at h
   · simp at h
 · split at h
   · split at h
     · simp only [Option.some.injEq] at h;subst h;simp at hn
     · simp only [Bool.cond_eq_ite] at h
       split at h
       · simp at h
       · split at h
         · simp only [Option.some.injEq] at h;subst h;simp at hn
         · simp at h
   · simp at h
 · split at h
   · obtain ⟨v,h1,rfl⟩:=bind_calmV h;simp at hn
   · simp at h
 · split at h
   · obtain ⟨v,h1,rfl⟩:=bind_calmV h;simp at hn
   · simp at h
 · split at h
   · simp only [Bool.cond_eq_ite] at h
     split at h
     · split at h
       · simp only [calmV,Option.some.injEq] at h;subst h;simp at hn
       · simp at h
     · simp at h
   · simp at h
 · simp at h
end
end Go.VK
namespace Go.VK
open AVal
section
variable {P:Program} {Φ:Ctx} {w w':World} {fz al:Nat→Prop} {p s:St} {a:Act} {R:RM} {F:Nat→Foot} {M:List Nat}
theorem evs_two {ts:List Nat} {xs:List Operand} {v u:AVal} (h:evs Φ p ts xs=some [v,u]) (hl:ts.length=2) : ∃t1 t2 x y,ts=[t1,t2]∧xs=[x,y]∧p.ev Φ t1 x=some v∧p.ev Φ t2 y=some u:=by
 match ts,hl with
 | [t1,t2],_=>
   cases xs with
   | nil=>simp [evs] at h
   | cons x xs=>
     cases xs with
     | nil=>cases h1:p.ev Φ t1 x <;> simp [evs,h1] at h
     | cons y ys=>
       cases ys with
       | cons z zs=>
         cases h1:p.ev Φ t1 x <;> cases h2:p.ev Φ t2 y <;> simp [evs,h1,h2] at h
       | nil=>
         simp only [evs] at h
         cases h1:p.ev Φ t1 x with
         | none=>rw [h1] at h;simp at h
         | some v1=>
           cases h2:p.ev Φ t2 y with
           | none=>rw [h1,h2] at h;simp at h
           | some u1=>
             rw [h1,h2] at h
             simp only [Option.some.injEq,List.cons.injEq,and_true] at h
             obtain ⟨rfl,rfl⟩:=h
             exact ⟨t1,t2,x,y,rfl,rfl,h1,h2⟩
theorem tmp_set (t:St) (d:Nat) (v:AVal):(t.set d v).tmp d=v:=by simp [St.tmp,St.set,lk_ins]
theorem keysL_mem {vs:List AVal} (h : ∀v∈vs,∀K∈v.keys,K∈M) : ∀K∈keysL vs,K∈M:=by
 induction vs with
 | nil=>intro K hK;simp [keysL] at hK
 | cons v vs ih=>
   intro K hK
   simp only [keysL,List.mem_append] at hK
   rcases hK with hK|hK
   · exact h v (by simp) K hK
   · exact ih (fun u hu=>h u (by simp [hu])) K hK
theorem evList_keys (hM : ∀t v,lk p.env t=some v → ∀K∈v.keys,K∈M) {t:Nat} : ∀{parts:List (Nat×Operand)} {i:Nat} {vs:List AVal},evList Φ p t parts i=some vs → ∀K∈keysL vs,K∈M
 | [],i,vs,h=>by simp only [evList,Option.some.injEq] at h;subst h;intro K hK;simp [keysL] at hK
 | (j,x)::r,i,vs,h=>by
   simp only [evList] at h
   cases hb:Nat.beq j i with
   | false=>rw [hb] at h;simp at h
   | true=>
     rw [hb] at h
     simp only [cond_true] at h
     cases h1:p.ev Φ t x with
     | none=>rw [h1] at h;simp at h
     | some v=>
       cases h2:evList Φ p t r (i+1) with
       | none=>rw [h1,h2] at h;simp at h
       | some us=>
         rw [h1,h2] at h
         simp only [Option.some.injEq] at h;subst h
         intro K hK
         simp only [keysL,List.mem_append] at hK
         rcases hK with hK|hK
         · exact ev_keys hM h1 K hK
         · exact evList_keys hM h2 K hK
theorem zipS_len {f:CT→AVal→Bool} : ∀{cs:List CT} {vs:List AVal},zipS f cs vs=true→vs.length=cs.length
 | [],[],_=>rfl
 | [],_::_,h=>by simp [zipS] at h
 | _::_,[],h=>by simp [zipS] at h
 | c::cs,v::vs,h=>by simp only [zipS,Bool.and_eq_true] at h;simp [zipS_len h.2]
theorem fits_one {c:CT} {x:AVal} {v:Value} (h:fitsC c x=true) (hv:EvV w fz s.obj R x v):v.oneCell'=true:=by
 cases x with
 | agg cs=>cases c <;> simp [fitsC] at h
 | tup cs=>cases c <;> simp [fitsC] at h
 | und=>cases c <;> simp [fitsC] at h
 | own _ _=>simp [EvV] at hv
 | rop _ _=>cases c <;> simp [fitsC] at h
 | ref K q=>simp only [EvV,EvR,EvP] at hv;obtain ⟨_,_,_,_,_,h1⟩:=hv;exact h1
 | ptr K q off=>simp only [EvV,EvR,EvP] at hv;obtain ⟨_,_,_,_,_,rfl⟩:=hv;rfl
 | clo f cs=>simp only [EvV,EvR] at hv;obtain ⟨_,rfl,_⟩:=hv;exact cloV_one _ _
 | ro t sz xs=>simp only [EvV] at hv;exact ROC.ones _ _ hv v (by simp)
 | mp _ _=>simp [EvV] at hv
 | unk=>simp only [EvV] at hv;exact hv
 | _=>simp only [EvV] at hv;rw [hv];rfl
theorem vstore_ok (hT:TOK P Φ) {o:Oper} {t:Nat} {T:TI} {A X:Operand} {va vx:AVal} {s2:St} {e:Eff} (hr:Rel w fz al s.env a.tmps s.obj R F) (hp:Sub p s) (ht:Φ.ti t=some T) (hm:Mid M s.obj p) (hA:Amb M s.obj p=s.obj) (hM : ∀t v,lk p.env t=some v → ∀K∈v.keys,K∈M)
 (ho:o.op=.store t A X) (ha:p.ev Φ 0 A=some va) (hx:p.ev Φ t X=some vx) (hpe:p.ki=[]∧p.kr=[]∧p.ka=[])
 (h:vstore T p va vx=some (true,s2)) (he:e.objs=s2.objs∧e.ka=s2.ka∧e.ki=s2.ki∧e.kr=s2.kr) (hv:e.v=none):RunsTo P a o w fz al s R M e:=by
 have ea:=ev_ok hr hp ha
 have ex:=ev_ok hr hp hx
 have hxM:=ev_keys hM hx
 unfold vstore at h
 split at h
 · rename_i K q off
   have hK:K∈M:=ev_keys hM ha K (by simp [AVal.keys])
   split at h
   · rename_i vs hag
     cases hz:zipS fitsC T.cts vs with
     | false=>rw [hz] at h;simp at h
     | true=>
       rw [hz] at h
       simp only [cond_true] at h
       have hl:=zipS_len hz
       refine storeAt_ok hr (hT.tf ht) hm hA ho ea ex hK hxM hpe ?_ (fun h=>by simp at h) h he hv
       simp only [EvV] at ex
       obtain ⟨ws,hw,hwl⟩:=ex
       rw [hw]
       have:=EvL.length hwl
       simp only [Value.cells]
       rw [←hl,←this];simp
   · rename_i vx _ _ _ c hag hc
     cases hf:fitsC c vx with
     | false=>rw [hf] at h;simp at h
     | true=>
       rw [hf] at h
       simp only [cond_true] at h
       have h1:=fits_one hf ex
       refine storeAt_ok hr (hT.tf ht) hm hA ho ea ex hK hxM hpe ?_ (fun _=>h1) h he hv
       rw [cells_one h1,hc];rfl
   · simp at h
 · simp at h
theorem vstore_run (hT:TOK P Φ) {o:Oper} {t:Nat} {T:TI} {A X:Operand} {va vx:AVal} {s2:St} (hr:Rel w fz al s.env a.tmps s.obj R F) (hp:Sub p s) (ht:Φ.ti t=some T) (hm:Mid M s.obj p) (hA:Amb M s.obj p=s.obj) (hM : ∀t v,lk p.env t=some v → ∀K∈v.keys,K∈M)
 (ho:o.op=.store t A X) (ha:p.ev Φ 0 A=some va) (hx:p.ev Φ t X=some vx)
 (h:vstore T p va vx=some (true,s2)) : ∃K q off,va=.ptr K q off ∧ ∃b q1,a.eval A=.pointer (some ⟨b,q1,none⟩)∧0<F K b ∧ ∀w0:World,w0.heap[b]? = w.heap[b]? → (execOp a.eval o).run P w0=.ok .skip (w0.setCells b q1 (a.eval X).cells.toList):=by
 have ea:=ev_ok hr hp ha
 have ex:=ev_ok hr hp hx
 have hxM:=ev_keys hM hx
 unfold vstore at h
 split at h
 · rename_i K q off
   have hK:K∈M:=ev_keys hM ha K (by simp [AVal.keys])
   refine ⟨K,q,off,rfl,?_⟩
   split at h
   · rename_i vs hag
     cases hz:zipS fitsC T.cts vs with
     | false=>rw [hz] at h;simp at h
     | true=>
       rw [hz] at h
       simp only [cond_true] at h
       have hl:=zipS_len hz
       refine storeAt_run hr (hT.tf ht) hm hA ho ea ex hK hxM ?_ (fun h=>by simp at h) h
       simp only [EvV] at ex
       obtain ⟨ws,hw,hwl⟩:=ex
       rw [hw]
       have:=EvL.length hwl
       simp only [Value.cells]
       rw [←hl,←this];simp
   · rename_i vx _ _ _ c hag hc
     cases hf:fitsC c vx with
     | false=>rw [hf] at h;simp at h
     | true=>
       rw [hf] at h
       simp only [cond_true] at h
       have h1:=fits_one hf ex
       refine storeAt_run hr (hT.tf ht) hm hA ho ea ex hK hxM ?_ (fun _=>h1) h
       rw [cells_one h1,hc];rfl
   · simp at h
 · simp at h
theorem mpIns_new {k v:AVal} : ∀{xs:List AVal},(∀y∈xs,kcode (mpK y)≠kcode k)→(mpIns k v xs).Perm (.tup [k,v]::xs)
 | [],_=>List.Perm.refl _
 | y::r,h=>by
   have g:Nat.beq (kcode (mpK y)) (kcode k)=false:=beq_ne (h y (by simp))
   simp only [mpIns,g,cond_false]
   cases Nat.blt (kcode k) (kcode (mpK y)) with
   | true=>exact List.Perm.refl _
   | false=>exact ((mpIns_new fun z hz=>h z (by simp [hz])).cons y).trans (List.Perm.swap _ _ _)
theorem mpIns_old {k v y:AVal} (hy:kcode (mpK y)=kcode k) : ∀{x1 x2:List AVal},(x1++y::x2).Pairwise (fun a b=>kcode (mpK a)<kcode (mpK b))→mpIns k v (x1++y::x2)=x1++.tup [k,v]::x2
 | [],x2,h=>by
   have g:Nat.beq (kcode (mpK y)) (kcode k)=true:=by rw [hy];simp
   simp only [List.nil_append,mpIns,g,cond_true]
 | z::x1,x2,h=>by
   simp only [List.cons_append,List.pairwise_cons] at h
   have hz:=h.1 y (by simp)
   have g:Nat.beq (kcode (mpK z)) (kcode k)=false:=beq_ne (by omega)
   have g2:Nat.blt (kcode k) (kcode (mpK z))=false:=by
    cases q:Nat.blt (kcode k) (kcode (mpK z)) with
    | false=>rfl
    | true=>rw [Nat.blt_eq] at q;omega
   simp only [List.cons_append,mpIns,g,g2,cond_false,mpIns_old hy h.2]
theorem mpIns_mem {k v:AVal} : ∀{xs:List AVal},∀z∈mpIns k v xs,z=.tup [k,v]∨z∈xs
 | [],z,h=>by simp only [mpIns,List.mem_singleton] at h;exact .inl h
 | y::r,z,h=>by
   simp only [mpIns] at h
   cases g:Nat.beq (kcode (mpK y)) (kcode k) with
   | true=>
     rw [g] at h;simp only [cond_true,List.mem_cons] at h
     rcases h with h|h
     · exact .inl h
     · exact .inr (by simp [h])
   | false=>
     rw [g] at h;simp only [cond_false] at h
     cases g2:Nat.blt (kcode k) (kcode (mpK y)) with
     | true=>
       rw [g2] at h;simp only [cond_true,List.mem_cons] at h
       rcases h with h|h|h
       · exact .inl h
       · exact .inr (by simp [h])
       · exact .inr (by simp [h])
     | false=>
       rw [g2] at h;simp only [cond_false,List.mem_cons] at h
       rcases h with h|h
       · exact .inr (by simp [h])
       · rcases mpIns_mem z h with h|h
         · exact .inl h
         · exact .inr (by simp [h])
theorem mpIns_ord {k v:AVal} : ∀{xs:List AVal},xs.Pairwise (fun a b=>kcode (mpK a)<kcode (mpK b))→(mpIns k v xs).Pairwise fun a b=>kcode (mpK a)<kcode (mpK b)
 | [],_=>by simp [mpIns]
 | y::r,h=>by
   have h0:=h
   rw [List.pairwise_cons] at h
   have hk:mpK (.tup [k,v])=k:=rfl
   simp only [mpIns]
   cases g:Nat.beq (kcode (mpK y)) (kcode k) with
   | true=>
     have g:=Nat.eq_of_beq_eq_true g
     simp only [cond_true,List.pairwise_cons]
     exact ⟨fun z hz=>by rw [hk,←g];exact h.1 z hz,h.2⟩
   | false=>
     simp only [cond_false]
     cases g2:Nat.blt (kcode k) (kcode (mpK y)) with
     | true=>
       rw [Nat.blt_eq] at g2
       simp only [cond_true]
       refine List.pairwise_cons.2 ⟨fun z hz => ?_,h0⟩
       rw [hk]
       rcases List.mem_cons.1 hz with rfl|hz
       · exact g2
       · have:=h.1 z hz;omega
     | false=>
       have g3 : ¬kcode k<kcode (mpK y):=fun q=>by rw [←Nat.blt_eq] at q;rw [q] at g2;cases g2
       have g4:kcode (mpK y)≠kcode k:=fun q=>by rw [q] at g;simp at g
       simp only [cond_false,List.pairwise_cons]
       refine ⟨fun z hz => ?_,mpIns_ord h.2⟩
       rcases mpIns_mem z hz with rfl|hz
       · rw [hk];omega
       · exact h.1 z hz
theorem scal_ev {x:AVal} (h:scalV x=true) {v:Value} (hv:EvV w fz s.obj R x v):v=pval x:=by
 cases x <;> simp [scalV] at h <;> simpa [EvV,pval] using hv
theorem mp_run {t kt e r n:Nat} {c:CT} {xs:List AVal} {es:Array MapEntry} {k x:AVal} (hu:P.underlying t=some (.map kt e)) (hky:KeyC P kt c) (hM:MpOK c xs es) (hh:w.heap[r]? = some (.map es n)) (hk:keyQ c k=true) (hx:scalV x=true) :
 ∃es' n',(Instr.mapUpdate t (.map (some r)) (pval k) (pval x)).run P w=.ok () { w with heap:=w.heap.setIfInBounds r (.map es' n') }∧MpOK c (mpIns k x xs) es':=by
 have ent : ∀y∈mpIns k x xs,keyQ c (mpK y)=true∧scalV (mpV y)=true:=fun y hy=>by
  rcases mpIns_mem y hy with rfl|hy
  · exact ⟨hk,hx⟩
  · exact hM.ent y hy
 obtain ⟨rr,hf,hc⟩:=mp_find hM hky w hk
 rcases hc with ⟨rfl,hg,_⟩|⟨jj,en,y,rfl,hj,hek,hy,hyk,hval,hg⟩
 · refine ⟨es.push { key:=pval k,val:=pval x,born:=n },n+1,?_,?_,ent,mpIns_ord hM.ord⟩
   · simp [Instr.mapUpdate,run_und hu,MapKept.run_getObj_map hh,hky.check w _ hk,hf,MapKept.run_setObj_map _ hh]
   · have h1:=(mpIns_new (v:=x) (mpGet_none hg)).map fun y=>(pval (mpK y),pval (mpV y))
     simp only [Array.toList_push,List.map_append,List.map_cons,List.map_nil]
     refine List.Perm.trans ?_ h1.symm
     refine (List.perm_append_comm).trans ?_
     simp only [List.cons_append,List.nil_append,List.map_cons]
     exact (hM.perm).cons _
 · have hj':es[jj]? = some en:=by simpa using hj
   refine ⟨es.modify jj fun e=>{ e with key:=pval k,val:=pval x },n,?_,?_,ent,mpIns_ord hM.ord⟩
   · simp [Instr.mapUpdate,run_und hu,MapKept.run_getObj_map hh,hky.check w _ hk,hf,hj',hek,hky.stays w hk,MapKept.run_setObj_map _ hh]
   · obtain ⟨x1,x2,rfl⟩:=List.append_of_mem hy
     rw [mpIns_old (by rw [hyk]) hM.ord]
     have hlt:=(List.getElem?_eq_some_iff.1 hj).1
     have hen:es.toList[jj]=en:=(List.getElem?_eq_some_iff.1 hj).2
     have e1:es.toList=es.toList.take jj++en::es.toList.drop (jj+1):=by
      rw [←hen,List.getElem_cons_drop,List.take_append_drop]
     have e2:(es.modify jj fun e=>{ e with key:=pval k,val:=pval x }).toList=es.toList.take jj++{ en with key:=pval k,val:=pval x }::es.toList.drop (jj+1):=by
      rw [Array.toList_modify,List.modify_eq_take_cons_drop hlt,hen]
     have h1:=hM.perm
     rw [e1] at h1
     rw [e2]
     simp only [List.map_append,List.map_cons] at h1 ⊢
     have h2:=(List.perm_middle.symm.trans h1).trans List.perm_middle
     rw [hek,hval,hyk] at h2
     exact List.perm_middle.trans ((h2.cons_inv.cons _).trans List.perm_middle.symm)
end
section
variable {P:Program} {Φ:Ctx} {C:Oracle} {w w':World} {fz fz1 al:Nat→Prop} {a:Act} {O0:OM} {R:RM} {M:List Nat}
theorem RelO.fill {E:Env2} {O:OM} {F:Nat→Foot} {G g:Foot} (h:RelO w fz al E O R F (fun b=>G b+g b)) {K:Nat} {o:VObj} (ho:O K=some o) {q:List Nat} (hp:o.c.okp q=true) (hag:aggQ (o.c.get q)=false) {y:AVal} {v:Value} {l:VK.Loc} (hw:walk w o.c (R K) q=some l) (hv:hdOf w l=some v) (hy:OwC w fz NoE y [v] g) (hya:aggQ y=false) :
 ∃F1:Nat→Foot,RelO w fz al E (upO O K (some { o with c:=o.c.put q y })) R F1 G∧(∀J,J≠K→F1 J=F J) ∧ ∀b,F1 K b≤F K b+g b:=by
 have hobj:=h.obj K o ho
 have hE:keepE (fun _=>false) NoE (deepE E o.c q):=fun _ _ _ h=>h.elim
 have hy2:OwC w fz (deepE E o.c q) y [v] g:=OwC.mono (fun b hb=>⟨hb,rfl⟩) _ _ _ hE _ _ (fun _ _=>rfl) hy
 have key : ∃f1:Foot,(∀b,f1 b≤F K b+g b)∧OwO w fz E { o with c:=o.c.put q y } (R K) f1:=by
  unfold OwO at hobj
  by_cases hb:o.box=true
  · rw [if_pos hb] at hobj
    obtain ⟨b0,cs0,f',hl,hB,hc,hf⟩:=hobj
    have hloc:LocAt w (R K) cs0.toList:=by rw [hl];exact ⟨cs0,hB.r,by simp,by simp [List.take_of_length_le]⟩
    obtain ⟨c1,f1,f2,l1,hw1,hl1,hm1,hg,hff,hk⟩:=split q E o.c cs0.toList f' (R K) hc hloc (fun _=>⟨_,_,hl⟩) hp
    rw [hw] at hw1;obtain rfl:=Option.some.inj hw1
    obtain ⟨v2,rfl⟩:=OwC.single hg hag
    have:v2=v:=by have:=hl1.hd;rw [hv] at this;exact (Option.some.inj this).symm
    subst this
    refine ⟨fun b=>(g b+f2 b)+if b=b0 then 1 else 0,fun b=>by dsimp only;rw [hf,hff];omega,?_⟩
    unfold OwO;rw [if_pos hb]
    exact ⟨b0,cs0,_,hl,hB,hk y g hy2,fun _=>rfl⟩
  · rw [if_neg hb] at hobj
    obtain ⟨v0,hl,hc,ha⟩:=hobj
    have hloc:LocAt w (R K) [v0]:=by rw [hl];rfl
    obtain ⟨c1,f1,f2,l1,hw1,hl1,hm1,hg,hff,hk⟩:=split q E o.c [v0] (F K) (R K) hc hloc (fun h0=>by rw [ha] at h0;simp at h0) hp
    rw [hw] at hw1;obtain rfl:=Option.some.inj hw1
    obtain ⟨v2,rfl⟩:=OwC.single hg hag
    have:v2=v:=by have:=hl1.hd;rw [hv] at this;exact (Option.some.inj this).symm
    subst this
    refine ⟨fun b=>g b+f2 b,fun b=>by dsimp only;rw [hff];omega,?_⟩
    unfold OwO;rw [if_neg hb]
    refine ⟨v0,hl,hk y g hy2,?_⟩
    cases q with
    | nil=>
      have:o.c.put [] y=y:=by cases o.c <;> rfl
      rw [this];exact hya
    | cons i q=>exact put_agg _ _ _ (by simp) ha
 obtain ⟨f1,hf1,hob1⟩:=key
 refine ⟨upF F K f1,⟨fun J u hu => ?_,fun J u hu b => ?_,fun J u I t hJI hu ht b => ?_,fun J u hu b hb => ?_,fun b=>by have:=h.g1 b;omega,fun J u hu b => ?_,fun b hb=>h.go b (by omega),h.lt⟩,fun J hJ=>by simp [upF,hJ],fun b=>by simp only [upF,if_true];exact hf1 b⟩
 · simp only [upO] at hu
   split at hu
   · rename_i hJ;subst hJ
     obtain rfl:=Option.some.inj hu
     simpa only [upF,if_true] using hob1
   · rename_i hJ;simp only [upF,if_neg hJ];exact h.obj J u hu
 · simp only [upO] at hu
   split at hu
   · rename_i hJ;subst hJ
     simp only [upF,if_true]
     have:=hf1 b;have:=h.g1 b;have:=h.gd J o ho b;have:=h.one J o ho b;omega
   · rename_i hJ;simp only [upF,if_neg hJ];exact h.one J u hu b
 · have hkey : ∀J u,J≠K→O J=some u→F J b=0∨f1 b=0:=by
    intro J u hJ hu
    have:=h.dis J u K o hJ hu ho b;have:=h.gd J u hu b;have:=hf1 b;omega
   simp only [upO] at hu ht
   split at hu
   · rename_i hJ;subst hJ
     rw [if_neg (Ne.symm hJI)] at ht
     simp only [upF,if_true,if_neg (Ne.symm hJI)]
     exact (hkey I t (Ne.symm hJI) ht).symm
   · rename_i hJ
     split at ht
     · rename_i hI;subst hI
       simp only [upF,if_true,if_neg hJ]
       exact hkey J u hJ hu
     · rename_i hI
       simp only [upF,if_neg hJ,if_neg hI]
       exact h.dis J u I t hJI hu ht b
 · simp only [upO] at hu
   split at hu
   · rename_i hJ;subst hJ
     simp only [upF,if_true] at hb
     by_cases h0:0<F J b
     · exact h.own J o ho b h0
     · exact h.go b (by have:=hf1 b;omega)
   · rename_i hJ;simp only [upF,if_neg hJ] at hb;exact h.own J u hu b hb
 · simp only [upO] at hu
   split at hu
   · rename_i hJ;subst hJ
     simp only [upF,if_true]
     have:=h.g1 b;have:=h.gd J o ho b;have:=hf1 b;omega
   · rename_i hJ;simp only [upF,if_neg hJ];have:=h.gd J u hu b;omega
theorem RelO.move {E:Env2} {O:OM} {F:Nat→Foot} {G G':Foot} {fz':Nat→Prop} (h:RelO w fz al E O R F G) (hs : ∀b,((∃K o,O K=some o∧0<F K b)∨fz b)→w'.heap[b]? = w.heap[b]?) (hf : ∀b,fz b→fz' b) (hn : ∀K o,O K=some o → ∀b,0<F K b → ¬fz' b) (hlt : ∀b,fz' b→b<w'.heap.size)
 (g1 : ∀b,G' b≤1) (gd : ∀K o,O K=some o → ∀b,F K b=0∨G' b=0) (go : ∀b,0<G' b→al b ∧ ¬fz' b):RelO w' fz' al E O R F G':=
 ⟨fun K o ho=>OwO.mono (fun b hb=>⟨hf b hb,hs b (.inr hb)⟩) (fun b hb=>hs b (.inl ⟨K,o,ho,hb⟩)) (h.obj K o ho),h.one,h.dis,fun K o ho b hb=>⟨(h.own K o ho b hb).1,hn K o ho b hb⟩,g1,gd,go,hlt⟩
theorem okp_put_self : ∀(q:List Nat) (x y:AVal),x.okp q=true→(x.put q y).okp q=true
 | [],x,y,_=>by cases x <;> cases y <;> rfl
 | i::q,x,y,h=>by
   cases x with
   | agg cs=>
     simp only [AVal.okp,Bool.and_eq_true,Nat.blt_eq] at h
     simp only [AVal.put,AVal.okp,Bool.and_eq_true,Nat.blt_eq,List.length_set,getD_set_same h.1]
     exact ⟨h.1,okp_put_self q _ y h.2⟩
   | own sz cs=>
     simp only [AVal.okp,Bool.and_eq_true,Nat.blt_eq] at h
     simp only [AVal.put,AVal.okp,Bool.and_eq_true,Nat.blt_eq,List.length_set,getD_set_same h.1]
     exact ⟨h.1,okp_put_self q _ y h.2⟩
   | tup cs=>
     simp only [AVal.okp,Bool.and_eq_true,Nat.blt_eq] at h
     simp only [AVal.put,AVal.okp,Bool.and_eq_true,Nat.blt_eq,List.length_set,getD_set_same h.1]
     exact ⟨h.1,okp_put_self q _ y h.2⟩
   | _=>simp [AVal.okp] at h
theorem get_put_self : ∀(q:List Nat) (x y:AVal),x.okp q=true→(x.put q y).get q=y
 | [],x,y,_=>by cases x <;> cases y <;> rfl
 | i::q,x,y,h=>by
   cases x with
   | agg cs=>
     simp only [AVal.okp,Bool.and_eq_true,Nat.blt_eq] at h
     simp only [AVal.put,AVal.get,getD_set_same h.1]
     exact get_put_self q _ y h.2
   | own sz cs=>
     simp only [AVal.okp,Bool.and_eq_true,Nat.blt_eq] at h
     simp only [AVal.put,AVal.get,getD_set_same h.1]
     exact get_put_self q _ y h.2
   | tup cs=>
     simp only [AVal.okp,Bool.and_eq_true,Nat.blt_eq] at h
     simp only [AVal.put,AVal.get,getD_set_same h.1]
     exact get_put_self q _ y h.2
   | _=>simp [AVal.okp] at h
theorem put_put : ∀(q:List Nat) (x y z:AVal),x.okp q=true→(x.put q y).put q z=x.put q z
 | [],x,y,z,_=>by cases x <;> cases y <;> rfl
 | i::q,x,y,z,h=>by
   cases x with
   | agg cs=>
     simp only [AVal.okp,Bool.and_eq_true,Nat.blt_eq] at h
     simp only [AVal.put,getD_set_same h.1,List.set_set,put_put q _ y z h.2]
   | own sz cs=>
     simp only [AVal.okp,Bool.and_eq_true,Nat.blt_eq] at h
     simp only [AVal.put,getD_set_same h.1,List.set_set,put_put q _ y z h.2]
   | tup cs=>
     simp only [AVal.okp,Bool.and_eq_true,Nat.blt_eq] at h
     simp only [AVal.put,getD_set_same h.1,List.set_set,put_put q _ y z h.2]
   | _=>simp [AVal.okp] at h
theorem hd_map {w1:World} {r:Nat} {es es':Array MapEntry} {n n':Nat} (hh:w.heap[r]? = some (.map es n)) (hself:w1.heap[r]? = some (.map es' n')) (hsame : ∀b,b≠r→w1.heap[b]? = w.heap[b]?) (l:VK.Loc):hdOf w1 l=hdOf w l:=by
 cases l with
 | val v=>rfl
 | mem b o=>
   by_cases hb:b=r
   · subst hb
     simp only [hdOf,World.cell?,hh,hself]
   · exact hdOf_same fun b' o' he=>by
      simp only [VK.Loc.mem.injEq] at he
      rw [←he.1];exact hsame b hb
theorem walk_map {w1:World} (hd : ∀l,hdOf w1 l=hdOf w l) : ∀(q:List Nat) (x:AVal) (l:VK.Loc),walk w1 x l q=walk w x l q
 | [],x,l=>by rw [walk_nil,walk_nil]
 | i::q,x,l=>by
   cases x with
   | agg cs=>
     cases l with
     | val v=>simp [walk]
     | mem b o=>simp only [walk,walk_map hd q]
   | own sz xs=>simp only [walk,hd,walk_map hd q]
   | ro t sz xs=>simp only [walk,hd,walk_map hd q]
   | _=>simp [walk]
theorem walk_put_mp {kc kc':CT} {ys xs:List AVal} : ∀(q r:List Nat) (x:AVal) (l:VK.Loc),x.get q=.mp kc xs→x.okp q=true→walk w (x.put q (.mp kc' ys)) l r=walk w x l r
 | [],r,x,l,hg,_=>by
   have e1:x.get []=x:=by cases x <;> rfl
   have e2:x.put [] (.mp kc' ys)=.mp kc' ys:=by cases x <;> rfl
   rw [e1] at hg;rw [e2,hg]
   cases r with
   | nil=>rw [walk_nil,walk_nil]
   | cons i r=>simp [walk]
 | i::q,[],x,l,_,_=>by rw [walk_nil,walk_nil]
 | i::q,j::r,x,l,hg,hok=>by
   cases x with
   | agg cs=>
     simp only [AVal.get] at hg
     simp only [AVal.okp,Bool.and_eq_true,Nat.blt_eq] at hok
     cases l with
     | val v=>simp [AVal.put,walk]
     | mem b o=>
       simp only [AVal.put,walk,List.length_set]
       by_cases hj:j<cs.length
       · rw [if_pos hj,if_pos hj]
         by_cases hij:i=j
         · subst hij
           rw [getD_set_same hj];exact walk_put_mp q r _ _ hg hok.2
         · rw [getD_set_ne hij]
       · rw [if_neg hj,if_neg hj]
   | own sz cs=>
     simp only [AVal.get] at hg
     simp only [AVal.okp,Bool.and_eq_true,Nat.blt_eq] at hok
     simp only [AVal.put,walk,List.length_set]
     by_cases hj:j<cs.length
     · rw [if_pos hj,if_pos hj]
       by_cases hij:i=j
       · subst hij
         rw [getD_set_same hj]
         cases hdOf w l with
         | none=>rfl
         | some v=>cases v <;> try rfl
                   rename_i a n m;cases a <;> try rfl
                   exact walk_put_mp q r _ _ hg hok.2
       · rw [getD_set_ne hij]
     · rw [if_neg hj,if_neg hj]
   | _=>simp [AVal.put,walk] <;> simp [AVal.get] at hg
end
section
variable {P:Program} {Φ:Ctx} {w w':World} {fz al:Nat→Prop} {p s:St} {a:Act} {R:RM} {F:Nat→Foot} {M:List Nat}
theorem mapSet_ok (hT:TOK P Φ) {o:Oper} {t:Nat} {A B X:Operand} {s2:St} {e:Eff} (hr:Rel w fz al s.env a.tmps s.obj R F) (hp:Sub p s) (hm:Mid M s.obj p) (hA:Amb M s.obj p=s.obj) (hM : ∀t v,lk p.env t=some v → ∀K∈v.keys,K∈M)
 (ho:o.op=.mapUpdate t A B X∨o.op=.insert t A B X) (hpe:p.ki=[]∧p.kr=[]∧p.ka=[])
 (h:mapSet Φ p o t A B X=some (true,s2)) (he:e.objs=s2.objs∧e.ka=s2.ka∧e.ki=s2.ki∧e.kr=s2.kr) (hv:e.v=match o.dst with|some d=>some (s2.tmp d)|none=>none):RunsTo P a o w fz al s R M e:=by
 unfold mapSet at h
 split at h
 · rename_i kt c E hmt
   split at h
   · rename_i K q kv x h1 h2 h3
     split at h
     · rename_i ob hob
       split at h
       · rename_i j xs hgq
         cases hd:o.dst with
         | some d'=>rw [hd] at h;simp at h
         | none=>
           rw [hd] at h hv
           simp only [Option.isNone_none,cond_true,Option.some.injEq,Prod.mk.injEq,Bool.and_eq_true,decide_eq_true_eq] at h
           obtain ⟨⟨hokp,rfl,hk,hE⟩,rfl⟩:=h
           obtain ⟨⟨el,hu,hel,helm⟩,hky,hkc,hsc⟩:=mapT_inv hT hmt
           rw [helm] at h3
           simp only [Option.getD_some] at h3
           have hK:K∈M:=ev_keys hM h1 K (by simp [AVal.keys])
           have hso:s.obj K=some ob:=hp.objs K _ hob
           obtain ⟨c1,g,l1,F1,hw1,hl1,hm1,hx1,hF1,hFK,hkd⟩:=hr.toO.dig hso hokp
           rw [hgq] at hx1
           simp only [OwC] at hx1
           have hOc:=(MpC.map hkc).1 hx1
           obtain ⟨r,es,n,rfl,hh,hMp,hff⟩:=hOc
           have hAv:a.eval A=.map (some r):=by
            have:=ev_ok hr hp h1
            simp only [EvV,EvR,EvP] at this
            obtain ⟨o',l,q1,q2,q3,_⟩:=this
            rw [hso] at q1;obtain rfl:=Option.some.inj q1
            rw [hw1] at q2;obtain rfl:=Option.some.inj q2
            rw [hl1.hd] at q3
            exact (Option.some.inj q3).symm
           have hkv:=key_ev hk (ev_ok hr hp h2)
           obtain ⟨_,hscx,_⟩:=scal_shape (w:=w) (fz:=fz) (s:=s) (R:=R) hT hel hsc hE
           have hxv:=scal_ev hscx (ev_ok hr hp h3)
           obtain ⟨es',n',hrun0,hMp'⟩:=mp_run hu hky hMp hh hk hscx
           obtain ⟨w1,hw1e⟩ : ∃w1,w1={ w with heap:=w.heap.setIfInBounds r (.map es' n') }:=⟨_,rfl⟩
           have hrun:(execOp a.eval o).run P w=.ok .skip w1:=by
            rcases ho with ho|ho <;> simp only [execOp,ho,hAv,hkv,hxv,Sem.run_bind,hrun0,Result.andThen_ok,Sem.run_pure,hw1e]
           obtain ⟨hs1,hs2⟩:=MapKept.heap_set (o':=.map es' n') hh
           have hsame : ∀b,b≠r→w1.heap[b]? = w.heap[b]? := fun b hb=>by rw [hw1e];exact hs2 b hb
           have hself:w1.heap[r]? = some (.map es' n'):=by rw [hw1e];exact hs1
           have hsize:w1.heap.size=w.heap.size:=by rw [hw1e];simp
           have hgr:g r=1:=by rw [hff];simp
           have hFr:0<F K r:=by rw [hFK];omega
           obtain ⟨halr,hfzr⟩:=hr.own K _ hso r hFr
           have hfz : ∀b,fz b→w1.heap[b]? = w.heap[b]? := fun b hb=>hsame b fun q=>hfzr (q▸hb)
           have hund:OwC w fz (deepE (EvR w s.obj R) ob.c q) .und [.map (some r)] zf:=by simp only [OwC];exact ⟨⟨_,rfl,rfl⟩,fun _=>rfl⟩
           have hd1:=hkd .und hund (fun hb=>by
            have hob2:=hr.obj K ob hso
            unfold OwO at hob2;rw [if_neg (by simp [hb])] at hob2
            obtain ⟨_,_,_,ha⟩:=hob2
            cases q with
            | nil=>have:ob.c.put [] .und=.und:=by cases ob.c <;> rfl
                   rw [this];rfl
            | cons i q=>exact put_agg _ _ _ (by simp) ha)
           have hkey : ∀J u,upO s.obj K (some { ob with c:=ob.c.put q .und }) J=some u→F1 J r=0:=fun J u hu=>by
            have:=hd1.gd J u hu r
            simp only [zf,Nat.zero_add] at this
            omega
           have hd2:=RelO.move (w':=w1) (fz':=fz) (G':=fun b=>zf b+g b) hd1 (fun b hb=>hsame b fun he=>by
            subst he
            rcases hb with ⟨J,u,hu,hb⟩|hb
            · have:=hkey J u hu;omega
            · exact hfzr hb) (fun _ h=>h) (fun J u hu b hb=>(hd1.own J u hu b hb).2) (fun b hb=>by rw [hsize];exact hr.lt b hb) hd1.g1 hd1.gd hd1.go
           have hdl:=hd_map hh hself hsame
           have hpp:(ob.c.put q .und).put q (.mp j (mpIns kv x xs))=ob.c.put q (.mp j (mpIns kv x xs)):=put_put q _ _ _ hokp
           have hgp:(ob.c.put q .und).get q=.und:=get_put_self q _ _ hokp
           have hop:(ob.c.put q .und).okp q=true:=okp_put_self q _ _ hokp
           have hwp:walk w1 (ob.c.put q .und) (R K) q=some l1:=by rw [walk_map hdl,walk_put q q _ _ hop];exact hw1
           obtain ⟨F2,hd3,hF2,_⟩:=RelO.fill (K:=K) (o:={ ob with c:=ob.c.put q .und }) (y:=.mp j (mpIns kv x xs)) (v:=.map (some r)) (l:=l1) hd2 (by simp only [upO,if_true]) hop (by simp only [hgp];rfl) hwp (by rw [hdl];exact hl1.hd) (by
            simp only [OwC]
            exact (MpC.map hkc).2 ⟨r,es',n',rfl,hself,hMp',hff⟩) rfl
           have hmix:Mix M s.obj e.objs=upO s.obj K (some { ob with c:=ob.c.put q (.mp j (mpIns kv x xs)) }):=by
            funext J
            have:=congrFun hA J
            simp only [Amb] at this
            simp only [Mix,upO,he.1,St.setObj,lk_ins]
            by_cases hJ:J=K
            · subst hJ;simp [hK]
            · simp only [hJ,if_false]
              exact this
           have hup:upO (upO s.obj K (some { ob with c:=ob.c.put q .und })) K (some { ob with c:=(ob.c.put q .und).put q (.mp j (mpIns kv x xs)) })=upO s.obj K (some { ob with c:=ob.c.put q (.mp j (mpIns kv x xs)) }):=by
            rw [hpp];funext J;simp only [upO];split <;> rfl
           refine ⟨.skip,undef,w1,hrun,.inr ⟨rfl,rfl⟩,fz,R,F2,⟨?_,fun J u hu => ?_,fun b hb=>⟨hb,hfz b hb⟩,?_,⟨by rw [hw1e],by rw [hw1e],by rw [hw1e],by rw [hsize];exact Nat.le_refl _,fun b _ hb=>hsame b (by rintro rfl;exact hb halr)⟩⟩,fun x hx=>by rw [hv] at hx;simp at hx,fun b hb=>.inl hb,fun _ _=>rfl⟩
           · rw [hmix,←hup];exact hd3
           · rw [he.1] at hu
             simp only [St.setObj,lk_ins] at hu
             split at hu
             · rename_i hJ;rw [hJ];exact hK
             · exact hm.seen J u hu
           · have hq:e.ka=[]∧e.ki=[]∧e.kr=[]:=⟨by rw [he.2.1];exact hpe.2.2,by rw [he.2.2.1];exact hpe.1,by rw [he.2.2.2];exact hpe.2.1⟩
             rw [hq.1,hq.2.1,hq.2.2,hmix]
             refine ⟨fun J u hu _ => ?_⟩
             by_cases hJ:J=K
             · subst hJ
               rw [hso] at hu;obtain rfl:=Option.some.inj hu
               exact ⟨_,by simp only [upO,if_true];rfl,rfl,fun _=>hdl _,fun q2 _ l hw=>⟨by rw [walk_map hdl,walk_put_mp q q2 _ _ hgq hokp];exact hw,hdl l⟩⟩
             · exact ⟨u,by simp only [upO,if_neg hJ];exact hu,rfl,fun _=>hdl _,fun q2 _ l hw=>⟨by rw [walk_map hdl];exact hw,hdl l⟩⟩
       · simp at h
     · simp at h
   · simp at h
 · simp at h
theorem loud_ok (hT:TOK P Φ) {o:Oper} {d:Nat} {s2:St} {e:Eff} (hr:Rel w fz al s.env a.tmps s.obj R F) (hp:Sub p s) (hal : ∀b,w.heap.size≤b→al b) (hm:Mid M s.obj p) (hA:Amb M s.obj p=s.obj) (hM : ∀t v,lk p.env t=some v → ∀K∈v.keys,K∈M) (hpe:p.ki=[]∧p.kr=[]∧p.ka=[])
 (h:loud Φ p o d=some (true,s2)) (he:e.objs=s2.objs∧e.ka=s2.ka∧e.ki=s2.ki∧e.kr=s2.kr) (hv:e.v=match o.dst with|some d=>some (s2.tmp d)|none=>none) (hdst:isStore o.op=false→o.dst=some d∧d∈M∧s.obj d=none∧d<passBase):RunsTo P a o w fz al s R M e:=by
 have h00:RelO w fz al (EvR w s.obj R) (Amb M s.obj p) R F zf:=by rw [hA];exact hr.toO
 have ezf : ∀g:Foot,(fun b=>zf b+g b)=g:=fun g=>by funext b;simp [zf]
 unfold loud at h
 split at h
 · rename_i t A B X ho
   exact mapSet_ok hT hr hp hm hA hM (.inl ho) hpe h he hv
 · rename_i t A B X ho
   exact mapSet_ok hT hr hp hm hA hM (.inr ho) hpe h he hv
 · rename_i t A X ho
   split at h
   · rename_i T va vx ht ha hx
     cases hd:o.dst with
     | some d'=>rw [hd] at h;simp at h
     | none=>
       rw [hd] at h hv
       simp only [Option.isNone_none,cond_true] at h
       exact vstore_ok hT hr hp ht hm hA hM ho ha hx hpe h he hv
   · simp at h
 · rename_i t x ho
   obtain ⟨hd,hdM,hfr,hdp⟩:=hdst (by rw [ho];rfl)
   split at h
   · rename_i v hx
     split at h
     · rename_i c s1 htk
       simp only [Option.some.injEq,Prod.mk.injEq,true_and] at h
       subst h
       obtain ⟨F1,g,h1,h2,hm1,_⟩:=take_ok v p c s1 F zf (a.eval x) htk (ev_keys hM hx) (ev_ok hr hp hx) hm h00
       rw [ezf] at h1
       obtain ⟨h3,h4⟩:=h2.own
       rw [hd] at hv
       simp only [tmp_set] at hv
       refine made_box (n:=w.drawn) (cs:=(a.eval x).cells) (el:=t) hr hal hm1 h1 hdM hfr hdp he.1 ⟨he.2.1,he.2.2.1,he.2.2.2⟩ hv ?_ h3
       simp only [execOp,ho]
       refine run_v ?_
       simp only [Instr.box,Sem.run_bind,newVar,newRow,run_newObj,Result.andThen_ok,Sem.run_pure]
     · simp at h
   · simp at h
 · rename_i t X H mx ho
   obtain ⟨hd,hdM,hfr,hdp⟩:=hdst (by rw [ho];rfl)
   split at h
   · rename_i K q n m hX hH hmx
     simp only [Bool.cond_eq_ite] at h
     split at h
     · simp at h
     · rename_i hlt
       split at h
       · rename_i b2 xs s1 hbase
         simp only [Option.some.injEq,Prod.mk.injEq,Bool.and_eq_true,Nat.blt_eq,decide_eq_true_eq] at h
         obtain ⟨⟨rfl,hsz,hn0,hn1,hm3⟩,rfl⟩:=h
         obtain ⟨el,i,hu,hi,his⟩:=lenT_slice hT (by simp) (show lenT Φ t (.ref K q)=true by simpa using hlt)
         obtain ⟨F2,gx,h2,hbx,hm2,_⟩:=base_ok hbase (ev_keys hM hX) (ev_ok hr hp hX) hm h00
         rw [ezf] at h2
         rw [hd] at hv
         simp only [tmp_set] at hv
         refine reslice_ok (n:=n.toNat) hr hm2 h2 hbx (by omega) hsz hdM hfr hdp he.1 ⟨he.2.1,he.2.2.1,he.2.2.2⟩ hv (fun b cap hvx hcap => ?_)
         have eh:=ev_ok hr hp hH
         simp only [EvV] at eh
         have l1 : ∀x:AVal,(none:Option AVal)=some x → ∃v,(none:Option Value)=some v∧EvV w fz s.obj R x v:=fun x hx=>by simp at hx
         have g1 : ∀x:AVal,some (AVal.int .i64 n)=some x → ∃v,some (a.eval H)=some v∧EvV w fz s.obj R x v:=fun x hx=>by
          obtain rfl:=Option.some.inj hx
          exact ⟨_,rfl,by simp only [EvV];exact eh⟩
         have hlh:lohi none (some (.int .i64 n)) xs.length=some (true,0,n.toNat):=by
          simp [lohi,hn0,hn1]
         have hres : ∀(mv:Option Value) (cap':Nat),(Instr.sliceBounds true xs.length cap none (some (a.eval H)) mv).run P w=.ok (0,n.toNat,cap') w→(mx.map a.eval=mv)→(execOp a.eval o).run P w=.ok (.value (.slice (if cap'=0 then b else b.map (·.add (0*Φ.szOf t))) n.toNat cap')) w:=by
          intro mv cap' hb hmv
          simp only [execOp,ho]
          refine run_v ?_
          simp only [Instr.sliceAt,Sem.run_bind,run_und hu,Result.andThen_ok]
          simp only [Instr.slice,Option.map_none,Option.map_some,Sem.run_bind,run_und hu,hvx,hmv,Result.andThen_ok,hb,Sem.run_pure,size_run hi,his,Nat.sub_zero]
         obtain ⟨m1,m2⟩:=optEv_ok hr hp hmx
         split at hm3
         · obtain ⟨_,_,_,h6⟩:=lohi_ok (P:=P) (isS:=true) hcap l1 (fun _=>rfl) g1 (fun h=>by simp at h) hlh
           exact ⟨cap,by omega,Nat.le_refl _,hres none cap h6 (m2 rfl)⟩
         · rename_i km j
           simp only [decide_eq_true_eq] at hm3
           subst hm3
           obtain ⟨vm,hvm,hev⟩:=m1 _ rfl
           simp only [EvV] at hev
           subst hev
           obtain ⟨_,_,h6⟩:=lohi_ok3 (P:=P) (isS:=true) (km:=km) hcap l1 (fun _=>rfl) g1 (by simp) hlh
           have ej:((j.toNat:Nat):Int)=j:=by omega
           rw [ej] at h6
           exact ⟨j.toNat,Nat.le_refl _,by omega,hres _ _ h6 hvm⟩
         · simp at hm3
       · simp at h
   · simp at h
 · rename_i t n parts ho
   obtain ⟨hd,hdM,hfr,hdp⟩:=hdst (by rw [ho];rfl)
   split at h
   · rename_i ag sz el ky offs byt ht
     split at h
     · rename_i vs hvs
       simp only [Bool.cond_eq_ite] at h
       split at h
       · rename_i hn
         split at h
         · rename_i cs s1 htk
           simp only [Option.some.injEq,Prod.mk.injEq,Bool.and_eq_true,Nat.blt_eq] at h
           obtain ⟨⟨hsz,hrow,hpure,hE⟩,rfl⟩:=h
           obtain ⟨E,hE⟩:=Option.isSome_iff_exists.1 hE
           obtain ⟨i,z,hu,hi,hz,his,hzs,_⟩:=row_facts hT ht rfl rfl hE
           obtain ⟨vals,k1,k2⟩:=evList_ok hr hp hvs
           obtain ⟨F1,g,h1,h2,hm1,_⟩:=takeL_ok vs p cs s1 F zf vals htk (evList_keys hM hvs) k2 hm h00
           rw [ezf] at h1
           obtain ⟨hr1,hr2⟩:=rowOK_iff hrow
           obtain ⟨h3,h4,h5⟩:=row_own [] cs vals g h2 hr1 hpure
           have hn:=Nat.eq_of_beq_eq_true hn
           have hvl:vals.length=vs.length:=EvL.length k2
           have hcl:cs.length=n:=by rw [←h4,hvl,hn]
           have hparts:(parts.map fun (x:Nat×Operand)=>(x.1,a.eval x.2)).toList=(vals.zipIdx 0).map fun x=>(x.2,x.1):=by simpa using k1
           have hrun:=run_row (w:=w) hu hi hz hparts (by rw [h4,hcl]) (by omega) (by rw [his];exact hr2) (by rw [his];exact h5)
           have hfl:(vals.flatMap fun v=>v.cells.toList).length=cs.length*sz:=by
            have : ∀l:List Value,(∀v∈l,v.cells.size=sz)→(l.flatMap fun v=>v.cells.toList).length=l.length*sz:=by
             intro l
             induction l with
             | nil=>intro _;simp
             | cons x l ih=>
               intro h
               rw [List.flatMap_cons,List.length_append,ih fun v hv=>h v (by simp [hv]),List.length_cons,Nat.add_mul]
               have:=h x (by simp);simp [this];omega
            rw [this vals h5,h4]
           rw [hd] at hv
           simp only [tmp_set] at hv
           refine made_slice (n:=w.drawn) (sz:=sz) (cap:=cs.length) (xs:=cs) (cs:=(vals.flatMap fun v=>v.cells.toList).toArray) (el:=el) (fr:=(0,0)) hr hal hm1 h1 hdM hfr hdp he.1 ⟨he.2.1,he.2.2.1,he.2.2.2⟩ hv ?_ (fun o _ h=>by simp at h) (Nat.le_refl _) hsz (by simp only [List.size_toArray,hfl];exact Nat.le_refl _) ?_
           · simp only [execOp,ho]
             refine run_v ?_
             rw [hcl]
             exact hrun
           · simpa only [List.append_nil] using h3
         · simp at h
       · simp at h
     · simp at h
   · simp at h
 · rename_i args argTypes ho
   obtain ⟨hd,hdM,hfr,hdp⟩:=hdst (by rw [ho];rfl)
   split at h
   · rename_i ag sz el offs byt vx vy ht hevs
     simp only [Bool.cond_eq_ite] at h
     split at h
     · simp at h
     · rename_i hchk
       simp only [Bool.not_eq_true',Bool.not_eq_false,Bool.and_eq_true] at hchk
       have hchk1:=Nat.eq_of_beq_eq_true hchk.1
       split at h
       · simp at h
       · rename_i E hE
         split at h
         · simp at h
         · rename_i b1 ys s1 hmore
           split at h
           · simp at h
           · rename_i b2 xs s2' hbase
             simp only [Option.some.injEq,Prod.mk.injEq,Bool.and_eq_true,Nat.blt_eq,Nat.ble_eq] at h
             obtain ⟨⟨rfl,rfl,hcond,hsz,hby,hby2,hcap⟩,rfl⟩:=h
             obtain ⟨t1,t2,X,Y,hts,hxs,hev1,hev2⟩:=evs_two hevs (by simpa using hchk1)
             have hty:argTypes = #[t1,t2]:=by apply Array.toList_inj.1;simp [hts]
             have harg:args = #[X,Y]:=by apply Array.toList_inj.1;simp [hxs]
             subst hty;subst harg
             have e1:(#[t1,t2]:Array Nat).getD 0 0=t1:=rfl
             have e2:(#[t1,t2]:Array Nat).getD 1 0=t2:=rfl
             rw [e1] at ht
             rw [e2] at hchk
             obtain ⟨i,z,hu,hi,hz,his,hzs,hib⟩:=row_facts hT ht rfl rfl hE
             have hstr : ∀z,vy=.str z→P.underlying t2=some .string:=by
              rintro z rfl;exact lenT_str hT hchk.2
             have hsl:(∀z,vy≠.str z) → ∃e',P.underlying t2=some (.slice e'):=fun hn=>by
              obtain ⟨e',_,h1,_⟩:=lenT_slice hT hn hchk.2
              exact ⟨e',h1⟩
             have hkind:(∃e',P.underlying t2=some (.slice e'))∨P.underlying t2=some .string:=by
              by_cases hz : ∃z,vy=.str z
              · obtain ⟨z,hz⟩:=hz;exact .inr (hstr z hz)
              · exact .inl (hsl fun z he=>hz ⟨z,he⟩)
             obtain ⟨F1,gy,h1,⟨news,g1,hg1,hy,hsrc⟩,hm1,_,_,henv1,_⟩:=more_ok (P:=P) (tx:=t2) hmore (ev_keys hM hev2) (ev_ok hr hp hev2) hm h00 hkind hstr hsl
             rw [ezf] at h1
             obtain ⟨F2,gx,h2,hbx,hm2,_⟩:=base_ok hbase (ev_keys hM hev1) (ev_ok hr hp hev1) hm1 h1
             rw [hd] at hv
             simp only [tmp_set] at hv
             refine append_ok (ty:=o.type) hr hal hm2 h2 hbx hg1 hy hsrc (by simpa using hcond) hu hi hz his hsz hzs (by rw [hib];exact hby) (by rw [hib];exact hcap) hdM hfr hdp he.1 ⟨he.2.1,he.2.2.1,he.2.2.2⟩ hv (fun v w' hrun=>builtin_run ho rfl fun consts => ?_)
             refine run_v ?_
             have em:(#[X,Y]:Array Operand).map a.eval = #[a.eval X,a.eval Y]:=by simp
             show (Builtin.append_ #[t1,t2] o.type ((#[X,Y]:Array Operand).map a.eval)).run P w=_
             rw [em];exact hrun
   · simp at h
 · simp at h
end
end Go.VK
namespace Go.VK
open AVal
section
variable {P:Program} {Φ:Ctx} {C:Oracle} {w w':World} {fz al:Nat→Prop} {p s:St} {a:Act} {R:RM} {F:Nat→Foot} {M:List Nat}
theorem EvV.objs {O O':OM} (h : ∀K o,O K=some o → ∃o',O' K=some o' ∧ ∀l q,walk w o'.c l q=walk w o.c l q) (x:AVal) (v:Value) (hv:EvV w fz O R x v):EvV w fz O' R x v:=by
 have hE:keepE (AVal.dead [] [] []) (EvR w O R) (EvR w O' R):=Stab.keepE ⟨fun K u hu _=>by
  obtain ⟨o',h1,h2⟩:=h K u hu
  exact ⟨o',h1,rfl,fun _=>rfl,fun _ q l hw=>⟨by rw [h2];exact hw,rfl⟩⟩⟩
 have:=EvV.kill hE (fun b hb=>⟨hb,rfl⟩) x v hv
 rwa [kill_nil] at this
theorem put_size (a:Act) (d:Option Nat) (v:Value):(a.put d v).tmps.size=a.tmps.size:=by cases d <;> simp [Act.put]
theorem put_defers (a:Act) (d:Option Nat) (v:Value):(a.put d v).defers=a.defers:=by cases d <;> rfl
theorem put_at (a:Act) (d:Nat) (v:Value) (h:d<a.tmps.size):(a.put (some d) v).tmps.getD d undef=v:=by simp [Act.put,h]
theorem put_other (a:Act) (d:Option Nat) (v:Value) (t:Nat) (h:d≠some t):(a.put d v).tmps.getD t undef=a.tmps.getD t undef:=by
 cases d with
 | none=>rfl
 | some d=>
   have:d≠t:=fun he=>h (by rw [he])
   simp [Act.put,Array.getElem?_setIfInBounds_ne this]
theorem post_frel {X:Fr} {o:Oper} {e:Eff} {v:Value} (hF:FRel X s a w) (hr:Rel w fz X.al s.env a.tmps s.obj R F) (hfz0 : ∀b,X.fz0 b→fz b) (hfz1 : ∀b,fz b→X.fz0 b∨X.al b) (hR : ∀K,passBase≤K→R K=X.R0 K)
 (hd : ∀d,o.dst=some d→d<X.nt) (hsome:(o.dst.isNone||e.v.isSome)=true) (h:Post w fz X.al s R M e v w'):FRel X (s.join M o.dst e) (a.put o.dst v) w':=by
 obtain ⟨fz',R1,F1,he,hv,hfz,hR1⟩:=h
 refine ⟨⟨fz',R1,F1,?_,fun b hb=>(he.fzs b (hfz0 b hb)).1,fun b hb => ?_,fun K hK=>(hR1 K hK).trans (hR K hK)⟩,hF.keep.trans he.keep,by rw [put_defers];exact hF.defers,by rw [put_size];exact hF.size⟩
 · refine join_rel hr he o.dst _ (put_size ..) (fun t ht=>put_other a o.dst v t ht) (fun d hdd => ?_) (fun d x hdd hx => ?_)
   · rw [hdd] at hsome;simpa using hsome
   · have hdn:=hd d hdd
     rw [←hF.size] at hdn
     refine ⟨hdn,?_⟩
     rw [hdd,put_at a d v hdn]
     refine EvV.objs (fun K ob hob => ?_) x v (hv x hx)
     rw [←hdd,join_obj s M o.dst e he.sub K,hob]
     exact ⟨_,rfl,fun l q=>walk_kill _ _ _ _⟩
 · rcases hfz b hb with h|h
   · exact hfz1 b h
   · exact .inr h
structure OpF (Φ:Ctx) (s:St) (o:Oper) (e:Eff):Prop where
 mid:Mid (mof Φ s o) s.obj (s.part o.op)
 amb:Amb (mof Φ s o) s.obj (s.part o.op)=s.obj
 keys : ∀t v,lk (s.part o.op).env t=some v → ∀K∈v.keys,K∈mof Φ s o
 fresh : ∀K∈keysMade Φ o,K<passBase∧s.obj K=none
 cond:e.cond=true
 sm:(o.dst.isNone||e.v.isSome)=true
 sub : ∀K u,lk e.objs K=some u→K∈mof Φ s o
theorem opF {o:Oper} {e:Eff} (hok:okOp Φ s o e=true):OpF Φ s o e:=by
 simp only [okOp,Bool.and_eq_true,List.all_eq_true,Nat.blt_eq,Option.isNone_iff_eq_none] at hok
 obtain ⟨h1,h2,h3,h4⟩:=hok
 obtain ⟨k1,_,_,_,_,_,k7,_,_⟩:=okEff_iff h2
 obtain ⟨m1,m2⟩:=mid_init (s:=s) (o:=o.op) (M:=mof Φ s o) (fun K hK=>by
  simp only [mof,List.mem_append] at hK
  rcases hK with hK|hK
  · exact .inr (h4 K hK).2
  · exact .inl hK) (fun K hK=>by simp only [mof,List.mem_append];exact .inr hK)
 refine ⟨m1,m2,fun t v hv K hK => ?_,h4,h1,h3,fun K u hu=>k1 K (lk_mem hu)⟩
 have:=subM_iff.1 k7 K (mem_envKeys.2 ⟨_,lk_in hv,hK⟩)
 simp only [mof,List.mem_append];exact .inr this
theorem makes_of {o:Oper} {d:Nat} (hd:o.dst=some d) (hm:makes o.op=true) (hc : ∀c,o.op=.call c → ∃b,c.callee=.builtin b):d∈keysMade Φ o:=by
 unfold keysMade
 rw [hd]
 cases ho:o.op with
 | call c=>
   obtain ⟨b,hb⟩:=hc c ho
   cases c with
   | mk callee args argTypes=>
     simp only at hb;subst hb
     exact List.mem_singleton.2 rfl
 | _=>rw [ho] at hm;first|(simp [makes] at hm;done)|exact List.mem_singleton.2 rfl
end
end Go.VK
namespace Go.VK
open AVal
section
variable {P:Program} {Φ:Ctx} {C:Oracle} {w w':World} {fz al:Nat→Prop} {p s:St} {a:Act} {R:RM} {F:Nat→Foot} {M:List Nat}
theorem veff_ok (hT:TOK P Φ) (hr:Rel w fz al s.env a.tmps s.obj R F) (hal : ∀b,w.heap.size≤b→al b) {o:Oper} {e:Eff} (hx:isExtract o.op=false) (he:veff Φ (s.part o.op) o=some e) (hok:okOp Φ s o e=true):RunsTo P a o w fz al s R (mof Φ s o) e:=by
 have hF:=opF hok
 have hp:=part_sub s o.op
 have hat : ∀K,K∈mof Φ s o→lk (s.part o.op).objs K=s.obj K:=fun K hK=>by
  have:=congrFun hF.amb K
  simpa only [Amb,if_pos hK] using this
 have hcond:=hF.cond
 have hmade : ∀d,o.dst=some d→mem d (keysMade Φ o)=true→d∈mof Φ s o∧s.obj d=none∧d<passBase:=fun d _ h=>by
  have h:=mem_iff.1 h
  exact ⟨by simp only [mof,List.mem_append];exact .inl h,(hF.fresh d h).2,(hF.fresh d h).1⟩
 unfold veff at he
 simp only at he
 cases hc:calm Φ (s.part o.op) o (o.dst.getD 0) with
 | some c=>
   rw [hc] at he
   simp only at he
   cases hco:c.o with
   | none=>
     rw [hco] at he
     simp only [Option.some.injEq] at he
     subst he
     exact (calm_pure hT hr hp hc hcond hco hx).to hr rfl hat hF.sub
   | some ob=>
     rw [hco] at he
     cases hd:o.dst with
     | none=>rw [hd] at he;simp at he
     | some d=>
       rw [hd] at he hc
       simp only at he
       cases hm:mem d (keysMade Φ o) with
       | false=>rw [hm] at he;simp at he
       | true=>
         rw [hm] at he
         simp only [cond_true,Option.some.injEq] at he
         subst he
         obtain ⟨h1,h2,h3⟩:=hmade d hd hm
         refine calm_new hT hr hp hal hc hcond hco h2 h3 ?_ hF.sub ⟨rfl,rfl,rfl⟩ rfl
         funext K
         simp only [Mix,upO,Option.getD_some]
         by_cases hK:K=d
         · subst hK;rw [if_pos h1,if_pos rfl];simp [lk]
         · rw [if_neg hK]
           split
           · rename_i hKM
             rw [←hat K hKM]
             have:Nat.beq d K=false:=beq_ne (Ne.symm hK)
             simp only [lk,this,cond_false,lk_del,if_neg hK]
           · rfl
 | none=>
   rw [hc] at he
   simp only at he
   cases hl:loud Φ (s.part o.op) o (o.dst.getD 0) with
   | none=>rw [hl] at he;simp at he
   | some r=>
     obtain ⟨b,s2⟩:=r
     rw [hl] at he
     simp only at he
     cases hm:(o.dst.isSome&&mem (o.dst.getD 0) (keysMade Φ o)||isStore o.op) with
     | false=>rw [hm] at he;simp at he
     | true=>
       rw [hm] at he
       simp only [Bool.not_true,cond_false,Option.some.injEq] at he
       subst he
       simp only at hcond
       subst hcond
       refine loud_ok hT hr hp hal hF.mid hF.amb hF.keys ⟨rfl,rfl,rfl⟩ hl ⟨rfl,rfl,rfl,rfl⟩ rfl (fun hs => ?_)
       rw [hs] at hm
       simp only [Bool.or_false,Bool.and_eq_true] at hm
       cases hd:o.dst with
       | none=>rw [hd] at hm;simp at hm
       | some d=>
         rw [hd] at hm
         obtain ⟨h1,h2,h3⟩:=hmade d hd hm.2
         exact ⟨rfl,h1,h2,h3⟩
end
end Go.VK
namespace Go.VK
open AVal
section
variable {P:Program} {Φ:Ctx} {C:Oracle} {w w':World} {fz al:Nat→Prop} {p s:St} {a:Act} {R:RM} {F:Nat→Foot} {M:List Nat}
theorem evPs_free {O O':OM} {R R':RM} : ∀{cs:List AVal} {vs:List Value},keysL cs=[]→EvPs w O R cs vs→EvPs w' O' R' cs vs
 | [],_,_,h=>h
 | c::cs,vs,hk,h=>by
   simp only [keysL,List.append_eq_nil_iff] at hk
   simp only [EvPs] at h ⊢
   obtain ⟨v,r,h1,h2,h3⟩:=h
   refine ⟨v,r,h1,?_,evPs_free hk.2 h3⟩
   cases c <;> simp only [EvP] at h2 ⊢
   · exact h2
   · simp [AVal.keys] at hk
   · simp [AVal.keys] at hk
mutual
theorem noKeys_E {w0:World} {O O':OM} {R R':RM} : ∀(x:AVal) (c:List Value) (f:Foot),x.keys=[]→OwC w0 fz (EvR w O R) x c f→OwC w0 fz (EvR w' O' R') x c f
 | .agg cs,c,f,hk,h=>by simp only [OwC] at h ⊢;exact noKeys_L cs c f (by simpa [AVal.keys] using hk) h
 | .bool _,c,f,_,h=>by simpa only [OwC] using h
 | .int _ _,c,f,_,h=>by simpa only [OwC] using h
 | .str _,c,f,_,h=>by simpa only [OwC] using h
 | .nilp,c,f,_,h=>by simpa only [OwC] using h
 | .unk,c,f,_,h=>by simpa only [OwC] using h
 | .nils _,c,f,_,h=>by simpa only [OwC] using h
 | .ro _ _ _,c,f,_,h=>by simpa only [OwC] using h
 | .own _ _,c,f,_,h=>by simpa only [OwC] using h
 | .und,c,f,_,h=>by simpa only [OwC] using h
 | .ptr _ _ _,c,f,hk,_=>by simp [AVal.keys] at hk
 | .mp _ _,c,f,_,h=>by simpa only [OwC] using h
 | .rop _ _,c,f,_,h=>by simp [OwC] at h
 | .ref _ _,c,f,hk,_=>by simp [AVal.keys] at hk
 | .tup _,c,f,_,h=>by simp [OwC] at h
 | .clo g cs,c,f,hk,h=>by
   simp only [OwC,EvR] at h ⊢
   obtain ⟨⟨v,h1,h2,vs,h3,h4⟩,h0⟩:=h
   exact ⟨⟨v,h1,h2,vs,h3,evPs_free (by simpa [AVal.keys] using hk) h4⟩,h0⟩
theorem noKeys_L {w0:World} {O O':OM} {R R':RM} : ∀(xs:List AVal) (c:List Value) (f:Foot),keysL xs=[]→OwL w0 fz (EvR w O R) xs c f→OwL w0 fz (EvR w' O' R') xs c f
 | [],c,f,_,h=>by simpa only [OwL] using h
 | x::xs,c,f,hk,h=>by
   simp only [keysL,List.append_eq_nil_iff] at hk
   simp only [OwL] at h ⊢
   obtain ⟨v,r,f1,f2,h0,h1,h2,h3⟩:=h
   exact ⟨v,r,f1,f2,h0,noKeys_E x _ f1 hk.1 h1,noKeys_L xs r f2 hk.2 h2,h3⟩
end
theorem renC_flat (g:Nat→Nat) {x:AVal} (h : ¬ ∃cs,x=.agg cs):renC g x=ren1 g x:=by cases x <;> first|rfl|exact absurd ⟨_,rfl⟩ h
theorem tieV_flat (ks qs:List Nat) {x:AVal} (h : ¬ ∃cs,x=.agg cs):tieV ks qs x=tie1 ks qs x:=by cases x <;> first|rfl|exact absurd ⟨_,rfl⟩ h
theorem tiePs_E {O O':OM} {R R':RM} {ks qs:List Nat} {g:Nat→Nat} (hK : ∀K∈ks,∀v off,EvP w O R (.ptr K [] off) v→EvP w' O' R' (.ptr (g K) [] off) v) (hV : ∀K∈qs,∀v,EvP w O R (.ref K []) v→EvP w' O' R' (.ref (g K) []) v) : ∀{cs:List AVal} {vs:List Value},cs.all (tieP ks qs)=true→EvPs w O R cs vs→EvPs w' O' R' (cs.map (renP g)) vs
 | [],_,_,h=>h
 | c::cs,vs,ht,h=>by
   simp only [List.all_cons,Bool.and_eq_true] at ht
   simp only [EvPs,List.map_cons] at h ⊢
   obtain ⟨v,r,h1,h2,h3⟩:=h
   refine ⟨v,r,h1,?_,tiePs_E hK hV ht.2 h3⟩
   have ht1:=ht.1
   cases c <;> simp [tieP] at ht1
   · simpa only [renP,EvP] using h2
   · obtain ⟨rfl,hm⟩:=ht1
     exact hK _ (mem_iff.1 hm) _ _ h2
   · obtain ⟨rfl,hm⟩:=ht1
     exact hV _ (mem_iff.1 hm) _ h2
theorem tie1_E {w0:World} {O O':OM} {R R':RM} {ks qs:List Nat} {g:Nat→Nat} (hK : ∀K∈ks,∀v off,EvP w O R (.ptr K [] off) v→EvP w' O' R' (.ptr (g K) [] off) v) (hV : ∀K∈qs,∀v,EvP w O R (.ref K []) v→EvP w' O' R' (.ref (g K) []) v) (x:AVal) (c:List Value) (f:Foot) (ht:tie1 ks qs x=true) (h:OwC w0 fz (EvR w O R) x c f):OwC w0 fz (EvR w' O' R') (ren1 g x) c f:=by
 by_cases hp:(∃K p off,x=.ptr K p off) ∨ ∃q cs,x=.clo q cs
 · rcases hp with ⟨K,p,off,rfl⟩|⟨q,cs,rfl⟩
   · simp only [tie1,Bool.and_eq_true,List.isEmpty_iff] at ht
     obtain ⟨rfl,hm⟩:=ht
     simp only [ren1,OwC,EvR] at h ⊢
     obtain ⟨⟨v,h1,h2,h3⟩,h0⟩:=h
     exact ⟨⟨v,h1,h2,hK _ (mem_iff.1 hm) _ _ h3⟩,h0⟩
   · simp only [tie1] at ht
     simp only [ren1,OwC,EvR] at h ⊢
     obtain ⟨⟨v,h1,h2,vs,h3,h4⟩,h0⟩:=h
     exact ⟨⟨v,h1,h2,vs,h3,tiePs_E hK hV ht h4⟩,h0⟩
 · have e:ren1 g x=x:=by
    cases x <;> first|rfl|exact absurd (.inl ⟨_,_,_,rfl⟩) hp|exact absurd (.inr ⟨_,_,rfl⟩) hp
   have ht2:noKeys x=true:=by
    cases x <;> simp only [tie1] at ht <;> first|exact ht|exact absurd (.inl ⟨_,_,_,rfl⟩) hp|exact absurd (.inr ⟨_,_,rfl⟩) hp
   rw [e]
   exact noKeys_E x c f (by simpa [noKeys,List.isEmpty_iff] using ht2) h
theorem tieL_E {w0:World} {O O':OM} {R R':RM} {ks qs:List Nat} {g:Nat→Nat} (hK : ∀K∈ks,∀v off,EvP w O R (.ptr K [] off) v→EvP w' O' R' (.ptr (g K) [] off) v) (hV : ∀K∈qs,∀v,EvP w O R (.ref K []) v→EvP w' O' R' (.ref (g K) []) v) : ∀(xs:List AVal) (c:List Value) (f:Foot),xs.all (tie1 ks qs)=true→OwL w0 fz (EvR w O R) xs c f→OwL w0 fz (EvR w' O' R') (xs.map (ren1 g)) c f
 | [],c,f,_,h=>by simpa only [OwL,List.map_nil] using h
 | x::xs,c,f,ht,h=>by
   simp only [List.all_cons,Bool.and_eq_true] at ht
   simp only [OwL,List.map_cons] at h ⊢
   obtain ⟨v,r,f1,f2,h0,h1,h2,h3⟩:=h
   exact ⟨v,r,f1,f2,h0,tie1_E hK hV x _ f1 ht.1 h1,tieL_E hK hV xs r f2 ht.2 h2,h3⟩
theorem tie_E {w0:World} {O O':OM} {R R':RM} {ks qs:List Nat} {g:Nat→Nat} (hK : ∀K∈ks,∀v off,EvP w O R (.ptr K [] off) v→EvP w' O' R' (.ptr (g K) [] off) v) (hV : ∀K∈qs,∀v,EvP w O R (.ref K []) v→EvP w' O' R' (.ref (g K) []) v) (x:AVal) (c:List Value) (f:Foot) (ht:tieV ks qs x=true) (h:OwC w0 fz (EvR w O R) x c f):OwC w0 fz (EvR w' O' R') (renC g x) c f:=by
 by_cases hx : ∃cs,x=.agg cs
 · obtain ⟨cs,rfl⟩:=hx
   simp only [tieV] at ht;simp only [renC,OwC] at h ⊢;exact tieL_E hK hV cs c f ht h
 · rw [renC_flat g hx];rw [tieV_flat ks qs hx] at ht;exact tie1_E hK hV _ c f ht h
theorem aggQ_renC (g:Nat→Nat) (x:AVal):aggQ (renC g x)=aggQ x:=by cases x <;> rfl
theorem walk_ren1 (g:Nat→Nat) (x:AVal) (l:VK.Loc) (q:List Nat):VK.walk w (ren1 g x) l q=VK.walk w x l q:=by
 cases x <;> first|rfl|(cases q <;> simp [ren1,VK.walk])
theorem walk_renC (g:Nat→Nat) (x:AVal) (l:VK.Loc) (q:List Nat):VK.walk w (renC g x) l q=VK.walk w x l q:=by
 by_cases hx : ∃cs,x=.agg cs
 · obtain ⟨cs,rfl⟩:=hx
   cases q with
   | nil=>cases l <;> simp [VK.walk]
   | cons i q=>
     cases l with
     | val v=>simp [renC,VK.walk]
     | mem b o=>
       simp only [renC,VK.walk,List.length_map]
       by_cases hi:i<cs.length
       · rw [if_pos hi,if_pos hi]
         have e:(cs.map (ren1 g)).getD i .und=ren1 g (cs.getD i .und):=by
          simp [List.getD_eq_getElem?_getD,List.getElem?_eq_getElem hi]
         rw [e,walk_ren1]
       · rw [if_neg hi,if_neg hi]
 · rw [renC_flat g hx];exact walk_ren1 g x l q
theorem OwO.tie {w0:World} {O O':OM} {R R':RM} {fz1:Nat→Prop} {ks qs:List Nat} {g:Nat→Nat} {o:VObj} {l:VK.Loc} {f:Foot} (hK : ∀K∈ks,∀v off,EvP w O R (.ptr K [] off) v→EvP w' O' R' (.ptr (g K) [] off) v) (hV : ∀K∈qs,∀v,EvP w O R (.ref K []) v→EvP w' O' R' (.ref (g K) []) v) (ht:tieV ks qs o.c=true) (hf : ∀b,fz b→fz1 b) (h:OwO w0 fz (EvR w O R) o l f):OwO w0 fz1 (EvR w' O' R') (renVO g o) l f:=by
 have h2:=OwO.mono (fz':=fz1) (fun b hb=>⟨hf b hb,rfl⟩) (fun _ _=>rfl) h
 unfold OwO at h2 ⊢
 by_cases hb:o.box=true
 · rw [if_pos hb] at h2
   rw [if_pos (show (renVO g o).box=true from hb)]
   obtain ⟨b,cs,f',k1,k2,k3,k4⟩:=h2
   exact ⟨b,cs,f',k1,k2,tie_E hK hV _ _ _ ht k3,k4⟩
 · rw [if_neg hb] at h2
   rw [if_neg (show ¬(renVO g o).box=true from hb)]
   obtain ⟨v,k1,k2,k3⟩:=h2
   exact ⟨v,k1,tie_E hK hV _ _ _ ht k2,by simp only [renVO,aggQ_renC];exact k3⟩
mutual
theorem noRo_fz {fz2:Nat→Prop} {E E':Env2} : ∀(x:AVal) (c:List Value) (f:Foot),noRo x=true→OwC w fz E x c f→OwC w fz2 E' x c f
 | .agg cs,c,f,hk,h=>by simp only [OwC] at h ⊢;exact noRo_L cs c f (by simpa only [noRo] using hk) h
 | .bool _,c,f,_,h=>by simpa only [OwC] using h
 | .int _ _,c,f,_,h=>by simpa only [OwC] using h
 | .str _,c,f,_,h=>by simpa only [OwC] using h
 | .nilp,c,f,_,h=>by simpa only [OwC] using h
 | .unk,c,f,_,h=>by simpa only [OwC] using h
 | .nils _,c,f,_,h=>by simpa only [OwC] using h
 | .ro _ _ _,c,f,hk,_=>by simp [noRo] at hk
 | .own sz xs,c,f,hk,h=>by
   simp only [OwC] at h ⊢
   obtain ⟨b,cap,h1,h2,h3⟩:=h
   refine ⟨b,cap,h1,h2,h3.imp id ?_⟩
   rintro ⟨hz,g,off,cs,f',k1,k2,k3,k4,k5⟩
   exact ⟨hz,g,off,cs,f',k1,k2,k3,noRo_X xs sz _ f' (by simpa only [noRo] using hk) k4,k5⟩
 | .und,c,f,hk,_=>by simp [noRo] at hk
 | .ptr _ _ _,c,f,hk,_=>by simp [noRo] at hk
 | .rop _ _,c,f,hk,_=>by simp [noRo] at hk
 | .ref _ _,c,f,hk,_=>by simp [noRo] at hk
 | .tup _,c,f,_,h=>by simp [OwC] at h
 | .clo _ _,c,f,hk,_=>by simp [noRo] at hk
theorem noRo_L {fz2:Nat→Prop} {E E':Env2} : ∀(xs:List AVal) (c:List Value) (f:Foot),noRoL xs=true→OwL w fz E xs c f→OwL w fz2 E' xs c f
 | [],c,f,_,h=>by simpa only [OwL] using h
 | x::xs,c,f,hk,h=>by
   simp only [noRoL,Bool.and_eq_true] at hk
   simp only [OwL] at h ⊢
   obtain ⟨v,r,f1,f2,h0,h1,h2,h3⟩:=h
   exact ⟨v,r,f1,f2,h0,noRo_fz x _ f1 hk.1 h1,noRo_L xs r f2 hk.2 h2,h3⟩
theorem noRo_X {fz2:Nat→Prop} {E E':Env2} : ∀(xs:List AVal) (sz:Nat) (c:List Value) (f:Foot),noRoL xs=true→OwX w fz E xs sz c f→OwX w fz2 E' xs sz c f
 | [],sz,c,f,_,h=>by simpa only [OwX] using h
 | x::xs,sz,c,f,hk,h=>by
   simp only [noRoL,Bool.and_eq_true] at hk
   simp only [OwX] at h ⊢
   obtain ⟨c1,c2,f1,f2,h0,hl,h1,h2,h3⟩:=h
   exact ⟨c1,c2,f1,f2,h0,hl,noRo_fz x _ f1 hk.1 h1,noRo_X xs sz c2 f2 hk.2 h2,h3⟩
end
theorem put_not_okp : ∀(q:List Nat) (x y:AVal),x.okp q=false→x.put q y=x
 | [],x,y,h=>by cases x <;> simp [AVal.okp] at h
 | i::q,x,y,h=>by
   have key : ∀cs:List AVal,(Nat.blt i cs.length&&(cs.getD i .und).okp q)=false→cs.set i ((cs.getD i .und).put q y)=cs:=by
    intro cs hc
    by_cases hi:i<cs.length
    · have:(cs.getD i .und).okp q=false:=by
       have:Nat.blt i cs.length=true:=by simpa using hi
       rw [this] at hc;simpa using hc
      rw [put_not_okp q _ y this,set_getD hi]
    · exact set_out hi
   cases x with
   | agg cs=>simp only [AVal.put];rw [key cs (by simpa only [AVal.okp] using h)]
   | own sz cs=>simp only [AVal.put];rw [key cs (by simpa only [AVal.okp] using h)]
   | tup cs=>simp only [AVal.put];rw [key cs (by simpa only [AVal.okp] using h)]
   | _=>rfl
theorem walk_put_same {y:AVal} : ∀(q:List Nat) (x:AVal),(∀l r,walk w y l r=walk w (x.get q) l r) → ∀l r,walk w (x.put q y) l r=walk w x l r
 | [],x,h,l,r=>by
   have h1:x.put [] y=y:=by cases x <;> rfl
   rw [h1,h l r,get_nil]
 | i::q,x,h,l,[]=>by rw [walk_nil,walk_nil]
 | i::q,x,h,l,j::r=>by
   cases x with
   | agg cs=>
     cases l with
     | val v=>simp [AVal.put,walk]
     | mem b o=>
       simp only [AVal.put,walk,List.length_set]
       split
       · rename_i hj
         by_cases hij:i=j
         · subst hij
           rw [getD_set_same hj]
           exact walk_put_same q _ (by simpa only [AVal.get] using h) _ _
         · rw [getD_set_ne hij]
       · rfl
   | own sz cs=>
     simp only [AVal.put,walk,List.length_set]
     split
     · rename_i hj
       by_cases hij:i=j
       · subst hij
         rw [getD_set_same hj]
         cases hdOf w l with
         | none=>rfl
         | some v=>
           cases v <;> try rfl
           rename_i ad n m;cases ad <;> try rfl
           exact walk_put_same q _ (by simpa only [AVal.get] using h) _ _
       · rw [getD_set_ne hij]
     · rfl
   | tup vs=>simp [AVal.put,walk]
   | _=>rfl
theorem asRo_getD (xs:List AVal) (i:Nat):(asRoL xs).getD i .und=asRo (xs.getD i .und):=by
 induction xs generalizing i with
 | nil=>rfl
 | cons x xs ih=>
   cases i with
   | zero=>rfl
   | succ i=>simpa [asRoL] using ih i
theorem walk_asRo : ∀(r:List Nat) (x:AVal) (l:VK.Loc),walk w (asRo x) l r=walk w x l r
 | [],x,l=>by rw [walk_nil,walk_nil]
 | j::r,x,l=>by
   cases x with
   | agg cs=>
     cases l with
     | val v=>simp [asRo,walk]
     | mem b o=>simp only [asRo,walk,asRoL_length,asRo_getD,walk_asRo r]
   | own sz cs=>
     simp only [asRo,walk,asRoL_length,asRo_getD]
     split
     · cases hdOf w l with
       | none=>rfl
       | some v=>
         cases v <;> try rfl
         rename_i ad n m;cases ad <;> try rfl
         exact walk_asRo r _ _
     · rfl
   | tup vs=>simp [asRo,walk]
   | mp kc xs=>simp [asRo,walk]
   | _=>simp [asRo]
mutual
theorem asRo_asRo : ∀(x:AVal),asRo (asRo x)=asRo x
 | .agg cs=>by simp only [asRo,asRoL_asRoL cs]
 | .tup cs=>by simp only [asRo,asRoL_asRoL cs]
 | .own sz xs=>by simp only [asRo]
 | .bool _=>rfl
 | .int _ _=>rfl
 | .str _=>rfl
 | .nilp=>rfl
 | .unk=>rfl
 | .nils _=>rfl
 | .ro _ _ _=>rfl
 | .und=>rfl
 | .ptr _ _ _=>rfl
 | .mp _ _=>rfl
 | .rop _ _=>rfl
 | .ref _ _=>rfl
 | .clo _ _=>rfl
theorem asRoL_asRoL : ∀(xs:List AVal),asRoL (asRoL xs)=asRoL xs
 | []=>rfl
 | x::xs=>by simp only [asRoL,asRo_asRo x,asRoL_asRoL xs]
end
theorem asRo_get : ∀(q:List Nat) (x:AVal),asRo ((asRo x).get q)=asRo (x.get q)
 | [],x=>by rw [get_nil,get_nil,asRo_asRo]
 | i::q,x=>by cases x <;> simp only [asRo,AVal.get,asRo_getD,asRo_get q]
theorem asRoL_set : ∀(xs:List AVal) (i:Nat) (y:AVal),asRo y=asRo (xs.getD i .und)→asRoL (xs.set i y)=asRoL xs
 | [],i,y,_=>rfl
 | x::xs,0,y,h=>by
   have:asRo y=asRo x:=h
   simp only [List.set,asRoL,this]
 | x::xs,i+1,y,h=>by simp only [List.set,asRoL];rw [asRoL_set xs i y (by simpa using h)]
theorem asRo_put : ∀(q:List Nat) (x:AVal),asRo (x.put q (asRo (x.get q)))=asRo x
 | [],x=>by
   rw [get_nil]
   have:x.put [] (asRo x)=asRo x:=by cases x <;> rfl
   rw [this,asRo_asRo]
 | i::q,x=>by
   cases x with
   | agg cs=>simp only [AVal.put,AVal.get,asRo];rw [asRoL_set];exact asRo_put q _
   | own sz cs=>simp only [AVal.put,AVal.get,asRo];rw [asRoL_set];exact asRo_put q _
   | tup cs=>simp only [AVal.put,AVal.get,asRo];rw [asRoL_set];exact asRo_put q _
   | _=>rfl
theorem asRo_get_put : ∀(q r:List Nat) (x:AVal),asRo ((x.put q (asRo (x.get q))).get r)=asRo (x.get r)
 | [],r,x=>by
   rw [get_nil]
   have:x.put [] (asRo x)=asRo x:=by cases x <;> rfl
   rw [this,asRo_get]
 | i::q,[],x=>by rw [get_nil,get_nil];exact asRo_put (i::q) x
 | i::q,j::r,x=>by
   have key : ∀cs:List AVal,asRo (((cs.set i (((cs.getD i .und)).put q (asRo ((cs.getD i .und).get q)))).getD j .und).get r)=asRo ((cs.getD j .und).get r):=by
    intro cs
    by_cases hij:i=j
    · subst hij
      by_cases hi:i<cs.length
      · rw [getD_set_same hi];exact asRo_get_put q r _
      · rw [set_out hi]
    · rw [getD_set_ne hij]
   cases x with
   | agg cs=>simp only [AVal.put,AVal.get];exact key cs
   | own sz cs=>simp only [AVal.put,AVal.get];exact key cs
   | tup cs=>simp only [AVal.put,AVal.get];exact key cs
   | _=>rfl
end
end Go.VK
namespace Go.VK
open AVal
def frzO (O:OM):List (Nat×List Nat)→OM
 | []=>O
 | (K,q)::r=>match O K with
   | some o=>frzO (upO O K (some { o with c:=o.c.put q (asRo (o.c.get q)) })) r
   | none=>frzO O r
def roQ:AVal→Bool|.ro _ _ _=>true|_=>false
section
variable {P:Program} {Φ:Ctx} {C:Oracle} {w w':World} {fz al:Nat→Prop} {p s:St} {a:Act} {R:RM} {M:List Nat}
theorem okg_asRo : ∀(q:List Nat) (x:AVal),(asRo x).okg q=x.okg q
 | [],x=>by rw [okg_nil,okg_nil]
 | i::q,x=>by cases x <;> simp only [asRo,AVal.okg,asRoL_length,asRo_getD,okg_asRo q]
theorem okg_put : ∀(q r:List Nat) (x:AVal),(x.put q (asRo (x.get q))).okg r=x.okg r
 | [],r,x=>by
   rw [get_nil]
   have:x.put [] (asRo x)=asRo x:=by cases x <;> rfl
   rw [this,okg_asRo]
 | i::q,[],x=>by rw [okg_nil,okg_nil]
 | i::q,j::r,x=>by
   have key : ∀cs:List AVal,((cs.set i (((cs.getD i .und)).put q (asRo ((cs.getD i .und).get q)))).getD j .und).okg r=(cs.getD j .und).okg r:=by
    intro cs
    by_cases hij:i=j
    · subst hij
      by_cases hi:i<cs.length
      · rw [getD_set_same hi];exact okg_put q r _
      · rw [set_out hi]
    · rw [getD_set_ne hij]
   cases x with
   | agg cs=>simp only [AVal.put,AVal.okg,AVal.get,List.length_set];rw [key cs]
   | own sz cs=>simp only [AVal.put,AVal.okg,AVal.get,List.length_set];rw [key cs]
   | tup cs=>simp only [AVal.put,AVal.okg,AVal.get,List.length_set];rw [key cs]
   | _=>rfl
theorem put_get : ∀(q:List Nat) (x:AVal),x.put q (x.get q)=x
 | [],x=>by rw [get_nil];cases x <;> rfl
 | i::q,x=>by
   have key : ∀cs:List AVal,cs.set i ((cs.getD i .und).put q ((cs.getD i .und).get q))=cs:=by
    intro cs
    by_cases hi:i<cs.length
    · rw [put_get q,set_getD hi]
    · exact set_out hi
   cases x with
   | agg cs=>simp only [AVal.put,AVal.get];rw [key cs]
   | own sz cs=>simp only [AVal.put,AVal.get];rw [key cs]
   | tup cs=>simp only [AVal.put,AVal.get];rw [key cs]
   | _=>rfl
theorem isSl_asRo (x:AVal):isSl (asRo x)=isSl x:=by cases x <;> rfl
theorem roQ_put : ∀(q r:List Nat) (x:AVal),roQ (x.get r)=true→roQ ((x.put q (asRo (x.get q))).get r)=true
 | [],r,x,h=>by
   rw [get_nil]
   have:x.put [] (asRo x)=asRo x:=by cases x <;> rfl
   rw [this]
   exact ro r x h
 | i::q,[],x,h=>by
   rw [get_nil] at h ⊢
   cases x <;> simp [roQ] at h <;> rfl
 | i::q,j::r,x,h=>by
   have key : ∀cs:List AVal,roQ ((cs.getD j .und).get r)=true→roQ (((cs.set i (((cs.getD i .und)).put q (asRo ((cs.getD i .und).get q)))).getD j .und).get r)=true:=by
    intro cs hc
    by_cases hij:i=j
    · subst hij
      by_cases hi:i<cs.length
      · rw [getD_set_same hi];exact roQ_put q r _ hc
      · rw [set_out hi];exact hc
    · rw [getD_set_ne hij];exact hc
   cases x with
   | agg cs=>simp only [AVal.put,AVal.get] at h ⊢;exact key cs h
   | own sz cs=>simp only [AVal.put,AVal.get] at h ⊢;exact key cs h
   | tup cs=>simp only [AVal.put,AVal.get] at h ⊢;exact key cs h
   | _=>exact h
where
 ro : ∀(r:List Nat) (x:AVal),roQ (x.get r)=true→roQ ((asRo x).get r)=true
  | [],x,h=>by rw [get_nil] at h ⊢;cases x <;> simp [roQ] at h <;> rfl
  | j::r,x,h=>by
    cases x <;> simp only [asRo,AVal.get,asRo_getD] at h ⊢
    all_goals first
     | exact h
     | exact ro r _ h
theorem RelO.chill {E:Env2} {O:OM} {F:Nat→Foot} {G g:Foot} (h:RelO w fz al E O R F (fun b=>G b+g b)) (hlt : ∀b,0<g b→b<w.heap.size):RelO w (fun b=>fz b∨0<g b) al E O R F G:=by
 refine ⟨fun K o ho=>OwO.mono (fun b hb=>⟨.inl hb,rfl⟩) (fun _ _=>rfl) (h.obj K o ho),h.one,h.dis,fun K o ho b hb=>⟨(h.own K o ho b hb).1,?_⟩,fun b=>by have:=h.g1 b;omega,fun K o ho b=>by have:=h.gd K o ho b;omega,fun b hb=>⟨(h.go b (by omega)).1,?_⟩,fun b hb => ?_⟩
 · rintro (h1|h1)
   · exact (h.own K o ho b hb).2 h1
   · have:=h.gd K o ho b;omega
 · rintro (h1|h1)
   · exact (h.go b (by omega)).2 h1
   · have:=h.g1 b;omega
 · rcases hb with h1|h1
   · exact h.lt b h1
   · exact hlt b h1
theorem RelO.congr {E:Env2} {O O':OM} {F:Nat→Foot} {G:Foot} (h:RelO w fz al E O R F G) (he:O'=O):RelO w fz al E O' R F G:=he▸h
theorem RelO.freeze1 {E:Env2} {O:OM} {F:Nat→Foot} {G:Foot} (h:RelO w fz al E O R F G) {K:Nat} {o:VObj} (ho:O K=some o) (q:List Nat) (hsl:isSl (o.c.get q)=true) :
 ∃(fz1:Nat→Prop) (F1:Nat→Foot),RelO w fz1 al E (upO O K (some { o with c:=o.c.put q (asRo (o.c.get q)) })) R F1 G∧(∀b,fz b→fz1 b)∧(∀b,fz1 b→fz b∨0<F K b)∧(∀J b,F1 J b≤F J b)∧(∀J,J≠K→F1 J=F J)∧(roQ (o.c.get q)=true → ∀b,fz1 b→fz b)∧(∀b,0<F K b→fz1 b∨F1 K b=F K b)∧(o.c.okp q=true→roQ ((o.c.put q (asRo (o.c.get q))).get q)=true):=by
 have same:o.c.put q (asRo (o.c.get q))=o.c→(o.c.okp q=true→roQ (o.c.get q)=true) → ∃(fz1:Nat→Prop) (F1:Nat→Foot),RelO w fz1 al E (upO O K (some { o with c:=o.c.put q (asRo (o.c.get q)) })) R F1 G∧(∀b,fz b→fz1 b)∧(∀b,fz1 b→fz b∨0<F K b)∧(∀J b,F1 J b≤F J b)∧(∀J,J≠K→F1 J=F J)∧(roQ (o.c.get q)=true → ∀b,fz1 b→fz b)∧(∀b,0<F K b→fz1 b∨F1 K b=F K b)∧(o.c.okp q=true→roQ ((o.c.put q (asRo (o.c.get q))).get q)=true):=by
  intro he hq
  rw [he]
  refine ⟨fz,F,h.congr ?_,fun _ hb=>hb,fun _ hb=>.inl hb,fun _ _=>Nat.le_refl _,fun _ _=>rfl,fun _ _ hb=>hb,fun _ _=>.inr rfl,hq⟩
  funext J
  simp only [upO]
  split
  · rename_i hJ;rw [hJ,ho]
  · rfl
 rcases Bool.eq_false_or_eq_true (o.c.okp q) with hok|hok
 · have hor:(∃t sz xs,o.c.get q=.ro t sz xs) ∨ ∃sz xs,o.c.get q=.own sz xs:=by
    cases hg:o.c.get q <;> rw [hg] at hsl <;> simp [isSl] at hsl
    · exact .inl ⟨_,_,_,rfl⟩
    · exact .inr ⟨_,_,rfl⟩
   rcases hor with ⟨t,sz,xs,hg⟩|⟨sz,xs,hg⟩
   · refine same ?_ (fun _=>by rw [hg];rfl)
     have:asRo (o.c.get q)=o.c.get q:=by rw [hg];rfl
     rw [this];exact put_get q o.c
   · have hgr:asRo (o.c.get q)=asRo (.own sz xs):=by rw [hg]
     rw [hgr]
     obtain ⟨c1,g,l1,F1,hw1,hl1,hm1,hx,hF,hFK,hk⟩:=h.dig ho hok
     rw [hg] at hx
     have hx2:OwC w fz NoE (.own sz xs) c1 g:=pure_E _ _ _ rfl hx
     obtain ⟨v,rfl⟩:=OwC.single hx rfl
     have hglt : ∀b,0<g b→b<w.heap.size:=OwC.lt _ _ _ _ hx
     have hv1:=OwC.ones _ _ _ hx v (by simp)
     have hbox : ∀y:AVal,o.box=false→aggQ y=false→aggQ (o.c.put q y)=false:=fun y hb hy=>by
      have hob:=h.obj K o ho
      unfold OwO at hob;rw [if_neg (by simp [hb])] at hob
      obtain ⟨_,_,_,ha⟩:=hob
      cases q with
      | nil=>
        have:o.c.put [] y=y:=by cases o.c <;> rfl
        rw [this];exact hy
      | cons i q=>exact put_agg _ _ _ (by simp) ha
     have h1:=hk .und (by simp only [OwC];exact ⟨⟨v,rfl,hv1⟩,fun _=>rfl⟩) (fun hb=>hbox _ hb rfl)
     have h2:=h1.chill hglt
     have hO:(upO O K (some { o with c:=o.c.put q .und })) K=some { o with c:=o.c.put q .und }:=by simp [upO]
     obtain ⟨c2,g2,l2,F2,hw2,hl2,hm2,hx3,hF2,hFK2,hk2⟩:=h2.dig hO (okp_put_self q _ _ hok)
     simp only [get_put_self q _ _ hok] at hx3
     simp only [OwC] at hx3
     obtain ⟨⟨v2,rfl,_⟩,hg2⟩:=hx3
     have hl:l2=l1:=by
      simp only [walk_put q q o.c (R K) (okp_put_self q _ _ hok)] at hw2
      rw [hw1] at hw2;exact (Option.some.inj hw2).symm
     subst hl
     have hvv:v2=v:=by have:=hl1.hd;rw [hl2.hd] at this;exact Option.some.inj this
     subst hvv
     have hro:ROC w (fun b=>fz b∨0<g b) (asRo (.own sz xs)) [v2]:=asRo_ok (fun b hb=>.inl hb) _ _ _ hx2 (fun b hb=>.inr hb)
     have h3:=hk2 (asRo (.own sz xs)) (ROC.own _ _ hro) (fun hb=>by simp only [put_put q _ _ _ hok];exact hbox _ hb rfl)
     refine ⟨fun b=>fz b∨0<g b,F2,?_,fun b hb=>.inl hb,fun b hb=>hb.imp id (fun hb=>by rw [hFK];omega),fun J b => ?_,fun J hJ=>(hF2 J hJ).trans (hF J hJ),fun hno=>by rw [hg] at hno;simp [roQ] at hno,fun b hb => ?_,fun _=>by rw [get_put_self q _ _ hok];rfl⟩
     · have e:(fun b=>G b+g2 b)=G:=by funext b;rw [hg2];rfl
       rw [e] at h3
       refine h3.congr ?_
       funext J
       simp only [upO,put_put q _ _ _ hok]
       split <;> rfl
     · by_cases hJ:J=K
       · subst hJ
         have:=hFK b;have:=hFK2 b;omega
       · rw [hF2 J hJ,hF J hJ];exact Nat.le_refl _
     · by_cases h0:0<g b
       · exact .inl (.inr h0)
       · right;have:=hFK b;have:=hFK2 b;have:=hg2 b;omega
 · exact same (put_not_okp q _ _ hok) (fun h=>by rw [hok] at h;simp at h)
theorem RelO.freeze {E:Env2} : ∀(l:List (Nat×List Nat)) {fz:Nat→Prop} {O:OM} {F:Nat→Foot} {G:Foot},RelO w fz al E O R F G→(∀x∈l,∃o,O x.1=some o∧isSl (o.c.get x.2)=true) →
 ∃(fz1:Nat→Prop) (F1:Nat→Foot),RelO w fz1 al E (frzO O l) R F1 G∧(∀b,fz b→fz1 b)∧(∀b,fz1 b→fz b ∨ ∃x∈l,0<F x.1 b)∧(∀J b,F1 J b≤F J b)∧(∀J,(∀x∈l,J≠x.1)→F1 J=F J∧frzO O l J=O J) ∧
  ((∀x∈l,∀o,O x.1=some o→roQ (o.c.get x.2)=true) → ∀b,fz1 b→fz b)∧(∀J b,0<F J b→fz1 b∨F1 J b=F J b) ∧
  (∀K o,O K=some o → ∃o',frzO O l K=some o'∧o'.box=o.box∧(∀(w2:World) l' q,walk w2 o'.c l' q=walk w2 o.c l' q)∧(∀q,asRo (o'.c.get q)=asRo (o.c.get q))∧(∀q,o'.c.okg q=o.c.okg q) ∧ ∀q,roQ (o.c.get q)=true→roQ (o'.c.get q)=true) ∧
  (∀K,O K=none→frzO O l K=none)
 | [],fz,O,F,G,h,_=>⟨fz,F,h,fun _ hb=>hb,fun _ hb=>.inl hb,fun _ _=>Nat.le_refl _,fun _ _=>⟨rfl,rfl⟩,fun _ _ hb=>hb,fun _ _ _=>.inr rfl,fun K o ho=>⟨o,ho,rfl,fun _ _ _=>rfl,fun _=>rfl,fun _=>rfl,fun _ h=>h⟩,fun _ h=>h⟩
 | (K,q)::l,fz,O,F,G,h,hsl=>by
   obtain ⟨o,ho,hs⟩:=hsl (K,q) (by simp)
   obtain ⟨fz1,F1,h1,h2,h3,h4,h5,h6,h6',h7⟩:=h.freeze1 ho q hs
   have hO' : ∀J u,O J=some u → ∃u',upO O K (some { o with c:=o.c.put q (asRo (o.c.get q)) }) J=some u'∧u'.box=u.box∧(∀(w2:World) l' r,walk w2 u'.c l' r=walk w2 u.c l' r)∧(∀r,asRo (u'.c.get r)=asRo (u.c.get r))∧(∀r,u'.c.okg r=u.c.okg r) ∧ ∀r,roQ (u.c.get r)=true→roQ (u'.c.get r)=true:=by
    intro J u hu
    by_cases hJ:J=K
    · subst hJ
      rw [ho] at hu;obtain rfl:=Option.some.inj hu
      exact ⟨{ o with c:=o.c.put q (asRo (o.c.get q)) },by simp only [upO,if_true],rfl,fun w2=>walk_put_same q _ (fun l r=>walk_asRo r _ l),fun r=>asRo_get_put q r _,fun r=>okg_put q r _,fun r hr=>roQ_put q r _ hr⟩
    · exact ⟨u,by simp only [upO,if_neg hJ];exact hu,rfl,fun _ _ _=>rfl,fun _=>rfl,fun _=>rfl,fun _ h=>h⟩
   obtain ⟨fz2,F2,k1,k2,k3,k4,k5,k6,k6',k7,k8⟩:=RelO.freeze l h1 (fun x hx=>by
    obtain ⟨u,hu,hus⟩:=hsl x (by simp [hx])
    obtain ⟨u',hu',_,_,h8,_⟩:=hO' x.1 u hu
    refine ⟨u',hu',?_⟩
    rw [←isSl_asRo,h8,isSl_asRo];exact hus)
   have hf:frzO O ((K,q)::l)=frzO (upO O K (some { o with c:=o.c.put q (asRo (o.c.get q)) })) l:=by simp only [frzO,ho]
   rw [hf]
   refine ⟨fz2,F2,k1,fun b hb=>k2 b (h2 b hb),fun b hb => ?_,fun J b=>Nat.le_trans (k4 J b) (h4 J b),fun J hJ => ?_,fun hno b hb => ?_,fun J b hb => ?_,fun J u hu => ?_,fun J hJ => ?_⟩
   · rcases k3 b hb with hb|⟨x,hx,hb⟩
     · rcases h3 b hb with hb|hb
       · exact .inl hb
       · exact .inr ⟨(K,q),by simp,hb⟩
     · exact .inr ⟨x,by simp [hx],Nat.lt_of_lt_of_le hb (h4 x.1 b)⟩
   · have hJK:J≠K:=hJ (K,q) (by simp)
     obtain ⟨m1,m2⟩:=k5 J (fun x hx=>hJ x (by simp [hx]))
     exact ⟨m1.trans (h5 J hJK),by rw [m2];simp only [upO,if_neg hJK]⟩
   · refine h6 (hno (K,q) (by simp) o ho) b (k6 (fun x hx u hu => ?_) b hb)
     by_cases hx1:x.1=K
     · simp only [upO,hx1,if_true,Option.some.injEq] at hu
       subst hu
       exact roQ_put q x.2 _ (hno x (by simp [hx]) o (by rw [hx1];exact ho))
     · simp only [upO,if_neg hx1] at hu
       exact hno x (by simp [hx]) u hu
   · by_cases h0:fz1 b
     · exact .inl (k2 b h0)
     · by_cases hJ:J=K
       · subst hJ
         have h9:F1 J b=F J b:=(h6' b hb).resolve_left h0
         rcases k6' J b (by omega) with h|h
         · exact .inl h
         · exact .inr (by omega)
       · have:=h5 J hJ
         rcases k6' J b (by rw [this];exact hb) with h|h
         · exact .inl h
         · exact .inr (by rw [h,this])
   · obtain ⟨u',hu',m1,m2,m3,m4,m5⟩:=hO' J u hu
     obtain ⟨u2,hu2,n1,n2,n3,n4,n5⟩:=k7 J u' hu'
     exact ⟨u2,hu2,n1.trans m1,fun w2 l' r=>(n2 w2 l' r).trans (m2 w2 l' r),fun r=>(n3 r).trans (m3 r),fun r=>(n4 r).trans (m4 r),fun r hr=>n5 r (m5 r hr)⟩
   · refine k8 J ?_
     have:J≠K:=by rintro rfl;rw [ho] at hJ;simp at hJ
     simp only [upO,if_neg this];exact hJ
end
end Go.VK
namespace Go.VK
open AVal
def sumF:List Foot→Foot
 | []=>zf
 | g::gs=>fun b=>g b+sumF gs b
def isOwnQ:AVal→Bool|.own _ _=>true|.mp _ _=>true|_=>false
theorem lent_E {w:World} {fz:Nat→Prop} {E E':Env2} {x:AVal} {c:List Value} {f:Foot} (h:isOwnQ x=true) (hx:OwC w fz E x c f):OwC w fz E' x c f:=by
 cases x <;> simp [isOwnQ] at h
 case own sz xs=>exact pure_E _ _ _ rfl hx
 case mp kc xs=>exact hx
theorem isOwnQ_agg {x:AVal} (h:isOwnQ x=true):aggQ x=false:=by cases x <;> first|rfl|(simp [isOwnQ] at h)
theorem isOwnQ_keys {x:AVal} (h:isOwnQ x=true):x.keys=[]:=by cases x <;> first|rfl|(simp [isOwnQ] at h)
def LentH (w:World) (fz:Nat→Prop) (O0:OM) (R:RM):List (Nat×List Nat)→List VObj→List Value→List Foot→Prop
 | [],[],[],[]=>True
 | (K,q)::r,o::os,v::vs,g::gs=>o.box=false∧isOwnQ o.c=true∧OwC w fz NoE o.c [v] g∧(∃u l,O0 K=some u∧walk w u.c (R K) q=some l∧hdOf w l=some v)∧LentH w fz O0 R r os vs gs
 | _,_,_,_=>False
section
variable {P:Program} {Φ:Ctx} {C:Oracle} {w w':World} {fz al:Nat→Prop} {p s:St} {a:Act} {O0:OM} {R:RM} {M:List Nat}
theorem lend_ok : ∀(l:List (Nat×List Nat)) (s:St) (ls:List VObj) (s1:St) (F:Nat→Foot) (G:Foot),lend s l=some (true,ls,s1)→(∀x∈l,x.1∈M)→Mid M O0 s→RelO w fz al (EvR w O0 R) (Amb M O0 s) R F G →
 ∃(F1:Nat→Foot) (gs:List Foot) (vs:List Value),RelO w fz al (EvR w O0 R) (Amb M O0 s1) R F1 (fun b=>G b+sumF gs b)∧Mid M O0 s1∧LentH w fz O0 R l ls vs gs∧(∀K b,F1 K b≤F K b)∧s1.ka=s.ka∧s1.kr=s.kr∧s1.env=s.env ∧
  (∀y,y∈s1.ki↔y∈s.ki ∨ ∃x∈l,(x.1,[])=y)∧(∀K,(∀x∈l,K≠x.1)→lk s1.objs K=lk s.objs K∧F1 K=F K)
 | [],s,ls,s1,F,G,h,_,hm,hr=>by
   simp only [lend,Option.some.injEq,Prod.mk.injEq,true_and] at h
   obtain ⟨rfl,rfl⟩:=h
   exact ⟨F,[],[],by simpa [sumF,zf] using hr,hm,trivial,fun _ _=>Nat.le_refl _,rfl,rfl,rfl,by simp,fun _ _=>⟨rfl,rfl⟩⟩
 | (K,q)::l,s,ls,s1,F,G,h,hM,hm,hr=>by
   simp only [lend,St.obj] at h
   have hKM:K∈M:=hM (K,q) (by simp)
   cases ho:lk s.objs K with
   | none=>rw [ho] at h;simp at h
   | some o=>
     rw [ho] at h
     simp only at h
     cases hl:lend ((s.killInto K).setObj K { o with c:=o.c.put q .und }) l with
     | none=>rw [hl] at h;simp at h
     | some r=>
       obtain ⟨b,os,s'⟩:=r
       rw [hl] at h
       simp only [Option.some.injEq,Prod.mk.injEq,Bool.and_eq_true] at h
       obtain ⟨⟨hok,hown,rfl⟩,rfl,rfl⟩:=h
       have hA:Amb M O0 s K=some o:=by simp [Amb,hKM,ho]
       obtain ⟨u,hu,hbox,hho,hki⟩:=hm.old K o ho
       obtain ⟨c1,g,l1,F1,hw1,hl1,hm1,hx,hF,hFK,hk⟩:=hr.dig hA hok
       have hownq:isOwnQ (o.c.get q)=true:=by
        cases hg:o.c.get q <;> rw [hg] at hown <;> first|rfl|(simp [lend.isOwn] at hown)
       obtain ⟨v,rfl⟩:=OwC.single hx (isOwnQ_agg hownq)
       have hx2:OwC w fz NoE (o.c.get q) [v] g:=lent_E hownq hx
       have hwk:walk w u.c (R K) q=some l1:=by rw [←hho.walk _ _ hok];exact hw1
       have hv1:=OwC.ones _ _ _ hx v (by simp)
       have hr1:=hk .und (by simp only [OwC];exact ⟨⟨v,rfl,hv1⟩,fun _=>rfl⟩) (fun hb=>by
        have hob:=hr.obj K o hA
        unfold OwO at hob;rw [if_neg (by simp [hb])] at hob
        obtain ⟨_,_,_,ha⟩:=hob
        cases q with
        | nil=>
          have:o.c.put [] .und=.und:=by cases o.c <;> rfl
          rw [this];rfl
        | cons i q=>exact put_agg _ _ _ (by simp) ha)
       have hm2:Mid M O0 ((s.killInto K).setObj K { o with c:=o.c.put q .und }):=by
        refine ⟨fun J t ht => ?_,fun J t hJ ht hn => ?_,fun J t ht => ?_⟩
        · simp only [St.setObj,St.killInto,lk_ins] at ht
          split at ht
          · rename_i hJ;subst hJ
            obtain rfl:=Option.some.inj ht
            exact ⟨u,hu,hbox,hho.put q,.all (List.mem_cons_self ..)⟩
          · obtain ⟨u',k1,k2,k3,k4⟩:=hm.old J t ht
            exact ⟨u',k1,k2,k3,k4.cons _⟩
        · obtain ⟨t',ht'⟩:=hm.there J t hJ ht hn
          by_cases hJK:J=K
          · exact ⟨{ o with c:=o.c.put q .und },by simp only [St.setObj,St.killInto,lk_ins,if_pos hJK]⟩
          · exact ⟨t',by simp only [St.setObj,St.killInto,lk_ins,if_neg hJK];exact ht'⟩
        · simp only [St.setObj,St.killInto,lk_ins] at ht
          split at ht
          · rename_i hJ;rw [hJ];exact hKM
          · exact hm.seen J t ht
       have hr2:RelO w fz al (EvR w O0 R) (Amb M O0 ((s.killInto K).setObj K { o with c:=o.c.put q .und })) R F1 (fun b=>G b+g b):=by
        rw [amb_set M O0 _ hKM];exact hr1
       obtain ⟨F2,gs,vs,k1,k2,k3,k4,k5,k6,k7,k8,k9⟩:=lend_ok l _ os s' F1 _ hl (fun x hx=>hM x (by simp [hx])) hm2 hr2
       have hF1 : ∀J b,F1 J b≤F J b:=fun J b=>by
        by_cases hJ:J=K
        · subst hJ;have:=hFK b;omega
        · rw [hF J hJ];exact Nat.le_refl _
       refine ⟨F2,g::gs,v::vs,?_,k2,⟨rfl,hownq,hx2,⟨u,l1,hu,hwk,hl1.hd⟩,k3⟩,fun J b=>Nat.le_trans (k4 J b) (hF1 J b),k5,k6,k7,fun J => ?_,fun J hJ => ?_⟩
       · have e:(fun b=>G b+sumF (g::gs) b)=(fun b=>G b+g b+sumF gs b):=by funext b;simp only [sumF];omega
         rw [e];exact k1
       · rw [k8 J]
         simp only [St.setObj,St.killInto,List.mem_cons,exists_eq_or_imp]
         constructor
         · rintro ((rfl|h)|h)
           · exact .inr (.inl rfl)
           · exact .inl h
           · exact .inr (.inr h)
         · rintro (h|h|h)
           · exact .inl (.inr h)
           · exact .inl (.inl h.symm)
           · exact .inr h
       · have hJK:J≠K:=hJ (K,q) (by simp)
         obtain ⟨m1,m2⟩:=k9 J (fun x hx=>hJ x (by simp [hx]))
         exact ⟨by rw [m1];simp only [St.setObj,St.killInto,lk_ins,if_neg hJK],m2.trans (hF J hJK)⟩
end
end Go.VK
namespace Go.VK
open AVal
section
variable {P:Program} {Φ:Ctx} {C:Oracle} {w w':World} {fz al:Nat→Prop} {p s:St} {a:Act} {O0:OM} {R:RM} {M:List Nat}
theorem walk_put_g : ∀(q r:List Nat) (x:AVal) (l:VK.Loc),(x.put q .und).okg r=true→walk w (x.put q .und) l r=walk w x l r
 | [],r,x,l,h=>by
   cases r with
   | nil=>rw [walk_nil,walk_nil]
   | cons i r=>
     have:x.put [] .und=.und:=by cases x <;> rfl
     rw [this] at h;simp [AVal.okg] at h
 | i::q,[],x,l,_=>by rw [walk_nil,walk_nil]
 | i::q,j::r,x,l,h=>by
   cases x with
   | agg cs=>
     simp only [AVal.put,AVal.okg,Bool.and_eq_true,Nat.blt_eq,List.length_set] at h
     cases l with
     | val v=>simp [AVal.put,walk]
     | mem b o=>
       simp only [AVal.put,walk,List.length_set]
       rw [if_pos h.1,if_pos h.1]
       by_cases hij:i=j
       · subst hij;rw [getD_set_same h.1] at h ⊢;exact walk_put_g q r _ _ h.2
       · rw [getD_set_ne hij]
   | own sz xs=>
     simp only [AVal.put,AVal.okg,Bool.and_eq_true,Nat.blt_eq,List.length_set] at h
     simp only [AVal.put,walk,List.length_set]
     rw [if_pos h.1,if_pos h.1]
     by_cases hij:i=j
     · subst hij;rw [getD_set_same h.1] at h ⊢
       cases hdOf w l with
       | none=>rfl
       | some v=>cases v <;> try rfl
                 rename_i a n m;cases a <;> try rfl
                 exact walk_put_g q r _ _ h.2
     · rw [getD_set_ne hij]
   | tup vs=>simp [AVal.put,walk]
   | _=>simp [AVal.put]
theorem okg_put_und : ∀(q r:List Nat) (x:AVal),(x.put q .und).okg r=true→x.okg r=true
 | [],r,x,h=>by
   cases r with
   | nil=>rw [okg_nil]
   | cons i r=>
     have:x.put [] .und=.und:=by cases x <;> rfl
     rw [this] at h;simp [AVal.okg] at h
 | i::q,[],x,_=>by rw [okg_nil]
 | i::q,j::r,x,h=>by
   have key : ∀cs:List AVal,(Nat.blt j (cs.set i ((cs.getD i .und).put q .und)).length&&((cs.set i ((cs.getD i .und).put q .und)).getD j .und).okg r)=true→(Nat.blt j cs.length&&(cs.getD j .und).okg r)=true:=by
    intro cs h
    simp only [Bool.and_eq_true,Nat.blt_eq,List.length_set] at h ⊢
    refine ⟨h.1,?_⟩
    by_cases hij:i=j
    · subst hij;rw [getD_set_same h.1] at h;exact okg_put_und q r _ h.2
    · rw [getD_set_ne hij] at h;exact h.2
   cases x with
   | agg cs=>simp only [AVal.put,AVal.okg] at h ⊢;exact key cs h
   | own sz cs=>simp only [AVal.put,AVal.okg] at h ⊢;exact key cs h
   | tup cs=>simp only [AVal.put,AVal.okg] at h ⊢;exact key cs h
   | _=>simpa [AVal.put] using h
theorem Holes.walkg {c d:AVal} (h:Holes c d) : ∀(q:List Nat) (l:VK.Loc),d.okg q=true→VK.walk w d l q=VK.walk w c l q:=by
 induction h with
 | refl=>intros;rfl
 | put h p ih=>intro q l hq;rw [walk_put_g p q _ l hq];exact ih q l (okg_put_und p q _ hq)
theorem RelO.read {E:Env2} {O:OM} {F:Nat→Foot} {G:Foot} (hr:RelO w fz al E O R F G) {K:Nat} {q:List Nat} {o:VObj} (ho:O K=some o) (hq:o.c.okg q=true) : ∃l c f,walk w o.c (R K) q=some l∧LocAt w l c∧RdC w fz E (o.c.get q) c f:=by
 obtain ⟨c,f0,h1,h2,h3,h4,h5⟩:=(hr.obj K o ho).loc
 obtain ⟨l,c',E',h6,h7,h8,h9,_⟩:=walk_read q _ o.c c f0 (R K) (.inl ⟨f0,fun _=>Nat.le_refl _,h1⟩) h2 h3 hq
 refine ⟨l,c',f0,h6,h7,?_⟩
 rcases h9 with rfl|rfl
 · exact h8
 · rcases h8 with ⟨f1,hf,h8⟩|h8
   · exact .inl ⟨f1,hf,OwC.mono (fun b hb=>⟨hb,rfl⟩) _ NoE _ (fun _ _ _ h=>h.elim) _ _ (fun _ _=>rfl) h8⟩
   · exact .inr h8
theorem ro_weak {t:Bool} {sz:Nat} {xs:List AVal} {c:List Value} (h:ROC w fz (.ro t sz xs) c):ROC w fz (.ro false sz xs) c:=by
 simp only [ROC] at h ⊢
 obtain ⟨b,cap,h1,h2,_,h3⟩:=h
 exact ⟨b,cap,h1,h2,fun h=>by simp at h,h3⟩
def objsM (objs:List VObj):OM:=lk (numFrom passBase objs)
theorem lk_numFrom {α:Type} : ∀(xs:List α) (n K:Nat),lk (numFrom n xs) K=if n≤K then xs[K-n]? else none
 | [],n,K=>by simp [numFrom,lk]
 | x::xs,n,K=>by
   simp only [numFrom,lk]
   by_cases h:n=K
   · subst h;simp
   · rw [beq_ne h]
     simp only [cond_false,lk_numFrom xs (n+1) K]
     by_cases h1:n≤K
     · rw [if_pos (by omega),if_pos h1]
       have:K-n=(K-(n+1))+1:=by omega
       rw [this,List.getElem?_cons_succ]
     · rw [if_neg (by omega),if_neg h1]
theorem objsM_at (objs:List VObj) (i:Nat):objsM objs (passBase+i)=objs[i]? := by
 simp [objsM,lk_numFrom]
theorem objsM_lt (objs:List VObj) {K:Nat} (h:K<passBase):objsM objs K=none:=by
 simp only [objsM,lk_numFrom];rw [if_neg (by omega)]
def keysN (n:Nat):List Nat:=(List.range n).map (passBase + ·)
structure Entry (w:World) (fz al:Nat→Prop) (args:List AVal) (objs:List VObj) (vals:List Value) (R:RM) (F:Nat→Foot):Prop where
 args:EvL w fz (objsM objs) R (args.map shift) vals
 ro:RelO w fz al (EvR w (objsM objs) R) (objsM objs) R F zf
 al : ∀b,w.heap.size≤b→al b
 nk : ∀o∈objs,tieV (keysN objs.length) (valKs (objsM objs) (keysN objs.length)) o.c=true
def retVal:List Value→Value
 | [v]=>v
 | l=>.tuple l.toArray
structure Back (w:World) (fz al:Nat→Prop) (objs:List VObj) (R:RM) (rs:List AVal) (os:List VObj) (rvs:List Value) (w':World) (fz':Nat→Prop) (F':Nat→Foot) (g:Foot):Prop where
 ro:RelO w' fz' al (EvR w' (objsM os) R) (objsM os) R F' g
 res:HandRL w' fz' NoE rs rvs g
 pure:pureRs rs=true
 fz0 : ∀b,fz b→fz' b
 fz1 : ∀b,fz' b→fz b∨al b
 keep:Keep w al w'
 len:os.length=objs.length
 nk : ∀o∈os,tieV (keysN os.length) (valKs (objsM os) (keysN os.length)) o.c=true
structure GlOK (W0 w:World) (al:Nat→Prop):Prop where
 size:W0.heap.size≤w.heap.size
 it : ∀b,b<W0.heap.size → ¬al b∧w.heap[b]? = W0.heap[b]?
theorem GlOK.keep {W0 w w':World} {al:Nat→Prop} (h:GlOK W0 w al) (hk:Keep w al w'):GlOK W0 w' al:=
 ⟨Nat.le_trans h.size hk.size,fun b hb=>⟨(h.it b hb).1,(hk.block b (Nat.lt_of_lt_of_le hb h.size) (h.it b hb).1).trans (h.it b hb).2⟩⟩
theorem GlOK.sub {W0 w:World} {al al':Nat→Prop} (h:GlOK W0 w al) (hs : ∀b,al' b→w.heap.size≤b∨al b):GlOK W0 w al':=
 ⟨h.size,fun b hb=>⟨fun k=>(hs b k).elim (fun q=>by have:=h.size;omega) (h.it b hb).1,(h.it b hb).2⟩⟩
def NatOK (W0:World) (P:Program) (Φ:Ctx):Prop := ∀f n,lk Φ.nats f=some n → ∀args objs rs os,natF Φ n args objs=some (rs,os) → ∀w fz al vals R F,Entry w fz al args objs vals R F→GlOK W0 w al →
 Calls P f vals.toArray w fun e w' => ∃rvs fz' F' g,e=.returned (retVal rvs)∧Back w fz al objs R rs os rvs w' fz' F' g
def CallOK (W0:World) (P:Program) (Φ:Ctx) (C:Oracle):Prop := ∀f args objs rs os fn,C f args objs=some (rs,os)→lk Φ.fns f=some fn → ∀w fz al vals R F,Entry w fz al args objs vals R F→GlOK W0 w al →
 Calls P f vals.toArray w fun e w' => ∃rvs fz' F' g,e=.returned (retVal rvs)∧Back w fz al objs R rs os rvs w' fz' F' g
theorem shift1_flat {x:AVal} (h:cellOK x=true):shift1 x=x:=by cases x <;> simp [cellOK] at h <;> rfl
theorem cellOK_ev {O O':OM} {R R':RM} {fz1:Nat→Prop} (hf : ∀b,fz b→fz1 b) {x:AVal} {v:Value} (h:cellOK x=true) (hv:EvV w fz O R x v):EvV w fz1 O' R' x v:=by
 cases x <;> simp [cellOK] at h <;> simp only [EvV] at hv ⊢
 all_goals first
  | exact hv
  | exact ROC.mono (fun _ _=>rfl) hf _ _ hv
def SnapOK (w:World) (fz1:Nat→Prop) (_O2:OM) (_x v:AVal) (val:Value):Prop:=ROC w fz1 v [val]∨False
structure Frozen (w:World) (fz fz1:Nat→Prop) (O0 O2:OM) (R:RM) (rf:List (Nat×List Nat)):Prop where
 fz : ∀b,fz b→fz1 b
 rd : ∀x∈rf,∀o u,O2 x.1=some o→O0 x.1=some u→o.c.okg x.2=true → ∀val,EvP w O0 R (.ref x.1 x.2) val→ROC w fz1 (asRo (o.c.get x.2)) [val]
theorem snap_flat {O:OM} {x v:AVal} {b:Bool} {val:Value} {fz1:Nat→Prop} (hf : ∀b,fz b→fz1 b) (hx:(∀K q,x≠.ref K q)∧aggQ x=false) (h:s.snap x=some (b,v)) (hv:EvV w fz O R x val):ROC w fz1 v [val]:=by
 cases x <;> simp only [St.snap] at h
 case ref=>exact absurd rfl (hx.1 _ _)
 case agg=>simp [aggQ] at hx
 case mp=>simp [EvV] at hv
 all_goals first
  | (simp at h;done)
  | (simp only [Option.some.injEq,Prod.mk.injEq] at h
     obtain ⟨_,rfl⟩:=h
     simp only [EvV] at hv
     first
      | (simp only [ROC];exact ⟨val,rfl,hv⟩)
      | (subst hv;simp only [ROC];done)
      | exact ROC.mono (fun _ _=>rfl) hf _ _ hv
      | (simp only [ROC];exact ⟨val,rfl,hv⟩)
      | (subst hv;simp only [ROC];exact ⟨none,0,rfl,Nat.le_refl _,fun _=>rfl,fun h=>absurd rfl h⟩))
theorem snap_one {O2:OM} {rf:List (Nat×List Nat)} {fz1:Nat→Prop} (hF:Frozen w fz fz1 O0 O2 R rf) (hO2 : ∀K o,s.obj K=some o→O2 K=some o ∧ ∃u,O0 K=some u) {x v:AVal} {val:Value} (hrf : ∀K q,x=.ref K q→(K,q)∈rf) (hag:aggQ x=false) (h:s.snap x=some (true,v)) (hv:EvV w fz O0 R x val):ROC w fz1 v [val]:=by
 by_cases hx : ∃K q,x=.ref K q
 · obtain ⟨K,q,rfl⟩:=hx
   simp only [St.snap,St.at] at h
   cases ho:s.obj K with
   | none=>rw [ho] at h;simp at h
   | some o=>
     rw [ho] at h
     simp only [Option.some.injEq,Prod.mk.injEq,Bool.and_eq_true] at h
     obtain ⟨⟨h1,h2⟩,rfl⟩:=h
     obtain ⟨h3,u,h4⟩:=hO2 K o ho
     exact hF.rd (K,q) (hrf K q rfl) o u h3 h4 h1 val (by simpa only [EvV,EvR] using hv)
 · exact snap_flat hF.fz ⟨fun K q he=>hx ⟨K,q,he⟩,hag⟩ h hv
end
end Go.VK
namespace Go.VK
open AVal
section
variable {P:Program} {Φ:Ctx} {C:Oracle} {w w':World} {fz fz1 al:Nat→Prop} {p s:St} {a:Act} {O0 O2 OE:OM} {R RE:RM} {M:List Nat} {rf:List (Nat×List Nat)}
theorem co_ok {c:CT} {v:AVal} {val:Value} (hs:c.shro v=true) (hp:plainCT c=true) (h:ROC w fz1 v [val]):EvV w fz1 OE RE (c.co v) val∧shift1 (c.co v)=c.co v∧shift (c.co v)=c.co v:=by
 cases c with
 | bool=>cases v <;> simp [CT.shro,CT.shape] at hs;simp only [ROC] at h;exact ⟨by simp only [CT.co,AVal.toBool,EvV];simpa using h,rfl,rfl⟩
 | int k=>cases v <;> simp [CT.shro,CT.shape] at hs;subst hs;simp only [ROC] at h;exact ⟨by simp only [CT.co,AVal.toInt,EvV];simpa using h,rfl,rfl⟩
 | str=>cases v <;> simp [CT.shro,CT.shape] at hs;simp only [ROC] at h;exact ⟨by simp only [CT.co,AVal.toStr,EvV];simpa using h,rfl,rfl⟩
 | slice sz=>cases v <;> simp [CT.shro] at hs;subst hs;exact ⟨by simp only [CT.co,AVal.elems,EvV];exact ro_weak h,rfl,rfl⟩
 | ptr=>simp [plainCT] at hp
 | oth=>simp [plainCT] at hp
theorem mapFrom_ok : ∀(cs:List CT) (i:Nat) (vs:List AVal) (ws:List Value),zipS CT.shro cs (vs.drop i)=true→cs.all plainCT=true→ROL w fz1 (vs.drop i) ws→EvL w fz1 OE RE ((mapFrom CT.co (.agg vs) i cs).map shift1) ws
 | [],i,vs,ws,hz,_,h=>by
   cases hd:vs.drop i with
   | nil=>rw [hd] at h;simp only [ROL] at h;subst h;simp [mapFrom,EvL]
   | cons _ _=>rw [hd] at hz;simp [zipS] at hz
 | c::cs,i,vs,ws,hz,hp,h=>by
   cases hd:vs.drop i with
   | nil=>rw [hd] at hz;simp [zipS] at hz
   | cons v r=>
     have hr:vs.drop (i+1)=r:=by rw [←List.drop_drop,hd];rfl
     have hv:(AVal.agg vs).cell i=v:=by
      have:vs[i]? = some v:=by
       have:=congrArg (fun l:List AVal=>l[0]?) hd
       simpa [List.getElem?_drop] using this
      simp [AVal.cell,AVal.cells,this]
     rw [hd] at hz h
     simp only [zipS,Bool.and_eq_true] at hz
     simp only [List.all_cons,Bool.and_eq_true] at hp
     simp only [ROL] at h
     obtain ⟨u,rest,rfl,h1,h2⟩:=h
     obtain ⟨k1,k2,_⟩:=co_ok (OE:=OE) (RE:=RE) hz.1 hp.1 h1
     simp only [mapFrom,List.map_cons,EvL,hv]
     exact ⟨u,rest,rfl,by rw [k2];exact k1,mapFrom_ok cs (i+1) vs rest (by rw [hr];exact hz.2) hp.2 (by rw [hr];exact h2)⟩
theorem snapL_ok (hF:Frozen w fz fz1 O0 O2 R rf) (hO2 : ∀K o,s.obj K=some o→O2 K=some o ∧ ∃u,O0 K=some u) : ∀(xs:List AVal) (vs:List AVal) (cs:List CT) (ws:List Value),s.snapL xs=some (true,vs)→zipS CT.shro cs vs=true→(∀K q,AVal.ref K q∈xs→(K,q)∈rf)→EvL w fz O0 R xs ws→ROL w fz1 vs ws
 | [],vs,cs,ws,h,_,_,hv=>by
   simp only [St.snapL,Option.some.injEq,Prod.mk.injEq,true_and] at h;subst h
   simp only [EvL] at hv;subst hv
   simp [ROL]
 | x::xs,vs,cs,ws,h,hz,hrf,hv=>by
   simp only [St.snapL] at h
   cases h1:s.snap x with
   | none=>rw [h1] at h;simp at h
   | some r1=>
     obtain ⟨b1,v⟩:=r1
     cases h2:s.snapL xs with
     | none=>rw [h1,h2] at h;simp at h
     | some r2=>
       obtain ⟨b2,vs'⟩:=r2
       rw [h1,h2] at h
       simp only [Option.some.injEq,Prod.mk.injEq,Bool.and_eq_true] at h
       obtain ⟨⟨rfl,rfl⟩,rfl⟩:=h
       cases cs with
       | nil=>simp [zipS] at hz
       | cons c cs=>
         simp only [zipS,Bool.and_eq_true] at hz
         simp only [EvL] at hv
         obtain ⟨u,rest,rfl,hv1,hv2⟩:=hv
         have hag:aggQ x=false:=by
          cases x with
          | agg ys=>
            simp only [St.snap] at h1
            cases h3:s.snapL ys with
            | none=>rw [h3] at h1;simp at h1
            | some r=>
              rw [h3] at h1
              simp only [Option.some.injEq,Prod.mk.injEq] at h1
              obtain ⟨_,rfl⟩:=h1
              have:=hz.1
              cases c <;> simp [CT.shro,CT.shape] at this
          | _=>rfl
         simp only [ROL]
         exact ⟨u,rest,rfl,snap_one hF hO2 (fun K q he=>hrf K q (by simp [he])) hag h1 hv1,snapL_ok hF hO2 xs vs' cs rest h2 hz.2 (fun K q he=>hrf K q (by simp [he])) hv2⟩
theorem argv_ok (hF:Frozen w fz fz1 O0 O2 R rf) (hO2 : ∀K o,s.obj K=some o→O2 K=some o ∧ ∃u,O0 K=some u) {t:Nat} {x y:AVal} {val:Value} (h:argv Φ s t x=some (true,y)) (hrf : ∀z∈refsIn [x],z∈rf) (hv:EvV w fz O0 R x val):EvV w fz1 OE RE (shift y) val:=by
 unfold argv at h
 cases hT:Φ.ti t with
 | none=>rw [hT] at h;simp at h
 | some T=>
   rw [hT] at h
   simp only at h
   cases hs:s.snap x with
   | none=>rw [hs] at h;simp at h
   | some r=>
     obtain ⟨b,v⟩:=r
     rw [hs] at h
     simp only [Bool.cond_eq_ite] at h
     split at h
     · rename_i hp
       split at h
       · rename_i cs hag
         simp only [Option.some.injEq,Prod.mk.injEq,Bool.and_eq_true] at h
         obtain ⟨⟨rfl,hz⟩,rfl⟩:=h
         cases v with
         | agg vs=>
           cases x with
           | agg xs=>
             simp only [St.snap] at hs
             cases h3:s.snapL xs with
             | none=>rw [h3] at hs;simp at hs
             | some r=>
               obtain ⟨b2,vs2⟩:=r
               rw [h3] at hs
               simp only [Option.some.injEq,Prod.mk.injEq,AVal.agg.injEq] at hs
               obtain ⟨rfl,rfl⟩:=hs
               simp only [EvV] at hv
               obtain ⟨ws,rfl,hl⟩:=hv
               have:=snapL_ok hF hO2 xs vs2 T.cts ws.toList h3 hz (fun K q he=>hrf (K,q) (by
                simp only [refsIn,List.append_nil]
                have : ∀ys:List AVal,AVal.ref K q∈ys→(K,q)∈lentIn ys:=by
                 intro ys
                 induction ys with
                 | nil=>intro h;simp at h
                 | cons y ys ih=>
                   intro h
                   rcases List.mem_cons.1 h with h2|h2
                   · subst h2;simp [lentIn]
                   · have h3:=ih h2
                     cases y <;> simp only [lentIn] <;> first|exact h3|exact List.mem_cons_of_mem _ h3
                exact this xs he)) hl
               simp only [shift,EvV]
               exact ⟨ws,rfl,mapFrom_ok T.cts 0 vs2 ws.toList (by simpa using hz) hp (by simpa using this)⟩
           | ref K q=>
             simp only [St.snap,St.at] at hs
             cases ho:s.obj K with
             | none=>rw [ho] at hs;simp at hs
             | some o=>
               rw [ho] at hs
               simp only [Option.some.injEq,Prod.mk.injEq] at hs
               obtain ⟨h1,h2⟩:=hs
               simp only [eq_comm] at h1
               cases hg:o.c.get q <;> rw [hg] at h1 h2 <;> simp [slQ,asRo] at h1 h2
           | _=>simp [St.snap] at hs
         | _=>simp at hz
       · rename_i c hag hc
         simp only [Option.some.injEq,Prod.mk.injEq,Bool.and_eq_true] at h
         obtain ⟨⟨rfl,hz⟩,rfl⟩:=h
         rw [hc] at hp
         simp only [List.all_cons,List.all_nil,Bool.and_true] at hp
         have hag2:aggQ x=false:=by
          cases x with
          | agg ys=>
            simp only [St.snap] at hs
            cases h3:s.snapL ys with
            | none=>rw [h3] at hs;simp at hs
            | some r=>
              rw [h3] at hs
              simp only [Option.some.injEq,Prod.mk.injEq] at hs
              obtain ⟨_,rfl⟩:=hs
              cases c <;> simp [CT.shro,CT.shape] at hz
          | _=>rfl
         obtain ⟨k1,_,k3⟩:=co_ok (OE:=OE) (RE:=RE) hz hp (snap_one hF hO2 (fun K q he=>hrf (K,q) (by subst he;simp [refsIn])) hag2 hs hv)
         rw [k3];exact k1
       · simp at h
     · simp at h
def LQ (w:World) (O0:OM) (R:RM) (OE:OM) (RE:RM):List (Nat×List Nat)→Nat→Prop
 | [],_=>True
 | (K,q)::r,j=>(∀v,EvP w O0 R (.ref K q) v→EvP w OE RE (.ref (passBase+j) []) v)∧LQ w O0 R OE RE r (j+1)
theorem LQ.left : ∀{A B:List (Nat×List Nat)} {j:Nat},LQ w O0 R OE RE (A++B) j→LQ w O0 R OE RE A j∧LQ w O0 R OE RE B (j+A.length)
 | [],B,j,h=>⟨trivial,h⟩
 | x::A,B,j,h=>by
   simp only [List.cons_append,LQ] at h ⊢
   obtain ⟨h1,h2⟩:=h
   obtain ⟨h3,h4⟩:=LQ.left h2
   refine ⟨⟨h1,h3⟩,?_⟩
   rw [List.length_cons]
   have:j+(A.length+1)=j+1+A.length:=by omega
   rw [this];exact h4
theorem lentCells_ok (hf : ∀b,fz b→fz1 b) : ∀(cs:List AVal) (j:Nat) (ws:List Value),lentAgg cs=true→LQ w O0 R OE RE (lentIn cs) j→EvL w fz O0 R cs ws→(lentCells j cs).1=j+(lentIn cs).length∧EvL w fz1 OE RE ((lentCells j cs).2.map shift1) ws
 | [],j,ws,_,_,h=>by
   simp only [EvL] at h;subst h
   simp [lentCells,lentIn,EvL]
 | x::cs,j,ws,hl,hq,h=>by
   simp only [EvL] at h
   obtain ⟨v,r,rfl,h1,h2⟩:=h
   by_cases hx : ∃K q,x=.ref K q
   · obtain ⟨K,q,rfl⟩:=hx
     simp only [lentIn,LQ] at hq
     obtain ⟨k1,k2⟩:=lentCells_ok hf cs (j+1) r (by simpa [lentAgg] using hl) hq.2 h2
     simp only [lentCells,lentIn,List.map_cons,EvL]
     exact ⟨by rw [k1,List.length_cons];omega,v,r,rfl,by simp only [shift1,EvV,EvR];exact hq.1 v (by simpa only [EvV,EvR] using h1),k2⟩
   · have hno : ∀K q,x≠.ref K q:=fun K q he=>hx ⟨K,q,he⟩
     have hl2:cellOK x=true∧lentAgg cs=true:=by
      cases x <;> simp only [lentAgg,Bool.and_eq_true] at hl <;> first|exact absurd rfl (hno _ _)|exact hl
     have e1:lentIn (x::cs)=lentIn cs:=by cases x <;> simp only [lentIn] <;> exact absurd rfl (hno _ _)
     have e2:lentCells j (x::cs)=((lentCells j cs).1,x::(lentCells j cs).2):=by cases x <;> simp only [lentCells] <;> exact absurd rfl (hno _ _)
     rw [e1] at hq ⊢
     obtain ⟨k1,k2⟩:=lentCells_ok hf cs j r hl2.2 hq h2
     rw [e2]
     simp only [List.map_cons,EvL,shift1_flat hl2.1]
     exact ⟨k1,v,r,rfl,cellOK_ev hf hl2.1 h1,k2⟩
theorem evPs_ren {ks:List Nat} (hK : ∀K∈ks,∀v q off,EvP w O0 R (.ptr K q off) v→EvP w OE RE (.ptr (passBase+pos K ks 0) q off) v) : ∀{cs:List AVal} {vs:List Value},cs.all capOK=true→(∀K q off,AVal.ptr K q off∈cs→K∈ks)→EvPs w O0 R cs vs→EvPs w OE RE ((cs.map (renPtr ks)).map shift1) vs
 | [],vs,_,_,h=>by simpa only [EvPs,List.map_nil] using h
 | c::cs,vs,hc,hm,h=>by
   simp only [List.all_cons,Bool.and_eq_true] at hc
   simp only [EvPs] at h
   obtain ⟨v,r,rfl,h1,h2⟩:=h
   simp only [List.map_cons,EvPs]
   refine ⟨v,r,rfl,?_,evPs_ren hK hc.2 (fun K q off h=>hm K q off (by simp [h])) h2⟩
   have hc1:=hc.1
   cases c <;> simp [capOK] at hc1
   · exact h1
   · exact hK _ (hm _ _ _ (List.mem_cons_self ..)) _ _ _ h1
theorem args_ok {muts ks:List Nat} (hF:Frozen w fz fz1 O0 O2 R rf) (hO2 : ∀K o,s.obj K=some o→O2 K=some o ∧ ∃u,O0 K=some u)
 (hK : ∀K∈ks,∀v q off,EvP w O0 R (.ptr K q off) v→EvP w OE RE (.ptr (passBase+pos K ks 0) q off) v) : ∀(xs:List AVal) (ts:List Nat) (i j:Nat) (ys:List AVal) (vals:List Value),allArgs Φ s ks muts i j ts xs=some (true,ys)→EvL w fz O0 R xs vals →
 (∀K q off,AVal.ptr K q off∈xs→K∈ks)→(∀f cs,AVal.clo f cs∈xs → ∀K q off,AVal.ptr K q off∈cs→K∈ks)→(∀z∈refsIn (unlent muts i xs),z∈rf)→LQ w O0 R OE RE (lentOf muts i xs) j→EvL w fz1 OE RE (ys.map shift) vals
 | [],ts,i,j,ys,vals,h,hv,_,_,_,_=>by
   simp only [allArgs,Option.some.injEq,Prod.mk.injEq,true_and] at h;subst h
   simp only [EvL] at hv;subst hv
   simp [EvL]
 | x::xs,[],i,j,ys,vals,h,_,_,_,_,_=>by simp [allArgs] at h
 | x::xs,t::ts,i,j,ys,vals,h,hv,hp1,hp2,hrf,hq=>by
   simp only [EvL] at hv
   obtain ⟨val,rest,rfl,hv1,hv2⟩:=hv
   have ih:=fun i j ys h=>args_ok (muts:=muts) hF hO2 hK xs ts i j ys rest h hv2 (fun K q off h=>hp1 K q off (by simp [h])) (fun f cs h=>hp2 f cs (by simp [h]))
   simp only [allArgs] at h
   cases hi:mem i muts with
   | true=>
     rw [hi] at h
     have hun:unlent muts i (x::xs)=unlent muts (i+1) xs:=by simp only [unlent,hi,cond_true]
     rw [hun] at hrf
     simp only [cond_true] at h
     cases x with
     | ref K q=>
       simp only at h
       cases hr:allArgs Φ s ks muts (i+1) (j+1) ts xs with
       | none=>rw [hr] at h;simp at h
       | some r=>
         obtain ⟨d,us⟩:=r
         rw [hr] at h
         simp only [Option.some.injEq,Prod.mk.injEq] at h
         obtain ⟨rfl,rfl⟩:=h
         simp only [lentOf,hi,cond_true,LQ] at hq
         simp only [List.map_cons,EvL]
         exact ⟨val,rest,rfl,by simp only [shift,shift1,EvV,EvR];exact hq.1 val (by simpa only [EvV,EvR] using hv1),ih _ _ _ hr hrf hq.2⟩
     | agg cs=>
       simp only at h
       cases hlc:lentCells j cs with
       | mk m us=>
         rw [hlc] at h
         simp only at h
         cases hr:allArgs Φ s ks muts (i+1) m ts xs with
         | none=>rw [hr] at h;simp at h
         | some r=>
           obtain ⟨d,us2⟩:=r
           rw [hr] at h
           simp only [Option.some.injEq,Prod.mk.injEq,Bool.and_eq_true] at h
           obtain ⟨⟨hla,rfl⟩,rfl⟩:=h
           simp only [lentOf,hi,cond_true] at hq
           obtain ⟨hq1,hq2⟩:=hq.left
           simp only [EvV] at hv1
           obtain ⟨ws,rfl,hl⟩:=hv1
           obtain ⟨k1,k2⟩:=lentCells_ok (w:=w) (OE:=OE) (RE:=RE) hF.fz cs j ws.toList hla hq1 hl
           rw [hlc] at k1 k2
           simp only at k1 k2
           subst k1
           simp only [List.map_cons,EvL]
           exact ⟨_,rest,rfl,by simp only [shift,EvV];exact ⟨ws,rfl,k2⟩,ih _ _ _ hr hrf hq2⟩
     | _=>simp at h
   | false=>
     rw [hi] at h
     have hun:unlent muts i (x::xs)=x::unlent muts (i+1) xs:=by simp only [unlent,hi,cond_false]
     rw [hun] at hrf
     have hlo:lentOf muts i (x::xs)=lentOf muts (i+1) xs:=by cases x <;> simp only [lentOf,hi,cond_false]
     rw [hlo] at hq
     simp only [cond_false] at h
     have hrf2 : ∀z∈refsIn (unlent muts (i+1) xs),z∈rf:=fun z hz=>hrf z (by cases x <;> simp [refsIn,hz])
     have hrf1 : ∀z∈refsIn [x],z∈rf:=fun z hz=>hrf z (by
      cases x <;> simp only [refsIn,List.append_nil,List.mem_singleton,List.not_mem_nil] at hz <;> simp [refsIn,hz])
     cases ho:oneArg Φ s ks t x with
     | none=>rw [ho] at h;simp at h
     | some r1=>
       obtain ⟨b,y⟩:=r1
       cases hr:allArgs Φ s ks muts (i+1) j ts xs with
       | none=>rw [ho,hr] at h;simp at h
       | some r=>
         obtain ⟨d,us⟩:=r
         rw [ho,hr] at h
         simp only [Option.some.injEq,Prod.mk.injEq,Bool.and_eq_true] at h
         obtain ⟨⟨rfl,rfl⟩,rfl⟩:=h
         simp only [List.map_cons,EvL]
         refine ⟨val,rest,rfl,?_,ih _ _ _ hr hrf2 hq⟩
         unfold oneArg at ho
         cases hip:isPtr x with
         | false=>rw [hip] at ho;exact argv_ok hF hO2 (by simpa using ho) hrf1 hv1
         | true=>
           rw [hip] at ho
           simp only [cond_true,Option.some.injEq,Prod.mk.injEq] at ho
           obtain ⟨hcap,rfl⟩:=ho
           cases x <;> simp [isPtr] at hip
           · simpa only [renArg,shift,shift1,EvV] using hv1
           · simp only [renArg,shift,shift1,EvV,EvR] at hv1 ⊢
             exact hK _ (hp1 _ _ _ (List.mem_cons_self ..)) _ _ _ hv1
           · simp only [renArg,shift,EvV,EvR] at hv1 ⊢
             obtain ⟨vs,rfl,hps⟩:=hv1
             exact ⟨vs,rfl,evPs_ren hK (by simpa using hcap) (hp2 _ _ (List.mem_cons_self ..)) hps⟩
end
end Go.VK
namespace Go.VK
open AVal
section
variable {P:Program} {Φ:Ctx} {C:Oracle} {w w':World} {fz fz1 al:Nat→Prop} {p s:St} {a:Act} {O0 O2 OE:OM} {R RE:RM} {M:List Nat} {rf:List (Nat×List Nat)}
theorem get_asRo_okp : ∀(r:List Nat) (x:AVal),x.okp r=true→(asRo x).get r=asRo (x.get r)
 | [],x,_=>by rw [get_nil,get_nil]
 | i::r,x,h=>by
   cases x with
   | agg cs=>simp only [AVal.okp,Bool.and_eq_true] at h;simp only [asRo,AVal.get,asRo_getD,get_asRo_okp r _ h.2]
   | own sz cs=>simp only [AVal.okp,Bool.and_eq_true] at h;simp only [asRo,AVal.get,asRo_getD,get_asRo_okp r _ h.2]
   | tup cs=>simp only [AVal.okp,Bool.and_eq_true] at h;simp only [asRo,AVal.get,asRo_getD,get_asRo_okp r _ h.2]
   | _=>simp [AVal.okp] at h
theorem roQ_asRo {x:AVal} (h:isSl x=true):roQ (asRo x)=true:=by cases x <;> simp [isSl] at h <;> rfl
def Rdy (x:AVal) (r:List Nat):Prop:=x.okp r=true∨roQ (x.get r)=true
theorem Rdy.put : ∀(q r:List Nat) (x:AVal),Rdy x r→isSl (x.get r)=true→Rdy (x.put q (asRo (x.get q))) r
 | [],r,x,h,hs=>by
   rw [get_nil]
   have e:x.put [] (asRo x)=asRo x:=by cases x <;> rfl
   rw [e]
   rcases h with h|h
   · exact .inr (by rw [get_asRo_okp r x h];exact roQ_asRo hs)
   · exact .inr (roQ_put.ro r x h)
 | i::q,[],x,h,hs=>.inl (by cases x <;> rfl)
 | i::q,j::r,x,h,hs=>by
   have key : ∀cs:List AVal,(Nat.blt j cs.length&&(cs.getD j .und).okp r)=true∨roQ ((cs.getD j .und).get r)=true→isSl ((cs.getD j .und).get r)=true →
    (Nat.blt j (cs.set i ((cs.getD i .und).put q (asRo ((cs.getD i .und).get q)))).length&&((cs.set i ((cs.getD i .und).put q (asRo ((cs.getD i .und).get q)))).getD j .und).okp r)=true∨roQ (((cs.set i ((cs.getD i .und).put q (asRo ((cs.getD i .und).get q)))).getD j .und).get r)=true:=by
    intro cs h hs
    rw [List.length_set]
    by_cases hij:i=j
    · subst hij
      by_cases hi:i<cs.length
      · rw [getD_set_same hi]
        have hb:Nat.blt i cs.length=true:=by simpa using hi
        rw [hb] at h ⊢
        simp only [Bool.true_and] at h ⊢
        exact Rdy.put q r _ h hs
      · rw [set_out hi];exact h
    · rw [getD_set_ne hij];exact h
   unfold Rdy at h ⊢
   cases x with
   | agg cs=>simp only [AVal.put,AVal.get,AVal.okp] at h hs ⊢;exact key cs h hs
   | own sz cs=>simp only [AVal.put,AVal.get,AVal.okp] at h hs ⊢;exact key cs h hs
   | tup cs=>simp only [AVal.put,AVal.get,AVal.okp] at h hs ⊢;exact key cs h hs
   | _=>exact h
theorem frz_ro : ∀(l:List (Nat×List Nat)) (O:OM),(∀x∈l,∃o,O x.1=some o∧isSl (o.c.get x.2)=true∧Rdy o.c x.2) → ∀x∈l,∃o',frzO O l x.1=some o'∧roQ (o'.c.get x.2)=true
 | [],O,_,x,hx=>by simp at hx
 | (K,q)::l,O,h,x,hx=>by
   obtain ⟨o,ho,hs,hr⟩:=h (K,q) (by simp)
   have hf:frzO O ((K,q)::l)=frzO (upO O K (some { o with c:=o.c.put q (asRo (o.c.get q)) })) l:=by simp only [frzO,ho]
   rw [hf]
   have hstep : ∀y∈l,∃u,upO O K (some { o with c:=o.c.put q (asRo (o.c.get q)) }) y.1=some u∧isSl (u.c.get y.2)=true∧Rdy u.c y.2:=by
    intro y hy
    obtain ⟨u,hu,hus,hur⟩:=h y (by simp [hy])
    by_cases hy1:y.1=K
    · rw [hy1,ho] at hu;obtain rfl:=Option.some.inj hu
      refine ⟨{ o with c:=o.c.put q (asRo (o.c.get q)) },by simp only [upO,hy1,if_true],?_,hur.put q _ _ hus⟩
      rw [←isSl_asRo,asRo_get_put,isSl_asRo];exact hus
    · exact ⟨u,by simp only [upO,if_neg hy1];exact hu,hus,hur⟩
   have keep : ∀(l:List (Nat×List Nat)) (O:OM) (J:Nat) (u:VObj) (r:List Nat),O J=some u→roQ (u.c.get r)=true → ∃u',frzO O l J=some u'∧roQ (u'.c.get r)=true:=by
    intro l
    induction l with
    | nil=>intro O J u r hu hr;exact ⟨u,hu,hr⟩
    | cons y l ih=>
      intro O J u r hu hr
      obtain ⟨K',q'⟩:=y
      simp only [frzO]
      cases ho':O K' with
      | none=>exact ih O J u r hu hr
      | some o'=>
        simp only
        by_cases hJ:J=K'
        · subst hJ
          rw [hu] at ho';obtain rfl:=Option.some.inj ho'
          exact ih _ J { u with c:=u.c.put q' (asRo (u.c.get q')) } r (by simp only [upO,if_true]) (roQ_put q' r _ hr)
        · exact ih _ J u r (by simp only [upO,if_neg hJ];exact hu) hr
   rcases List.mem_cons.1 hx with rfl|hx
   · refine keep l _ K { o with c:=o.c.put q (asRo (o.c.get q)) } q (by simp only [upO,if_true]) ?_
     rcases hr with hr|hr
     · simp only [get_put_self q _ _ hr];exact roQ_asRo hs
     · exact roQ_put q q _ hr
   · exact frz_ro l _ hstep x hx
theorem ro_get : ∀(r:List Nat) (x:AVal) (c:List Value),ROC w fz x c→x.okg r=true → ∃c',ROC w fz (x.get r) c'
 | [],x,c,h,_=>⟨c,by rw [get_nil];exact h⟩
 | i::r,x,c,h,ho=>by
   cases x with
   | agg cs=>
     simp only [AVal.okg,Bool.and_eq_true,Nat.blt_eq] at ho
     simp only [ROC] at h
     obtain ⟨v,_,hv⟩:=ROL.at i h ho.1
     simp only [AVal.get]
     exact ro_get r _ _ hv ho.2
   | ro t sz xs=>
     simp only [AVal.okg,Bool.and_eq_true,Nat.blt_eq] at ho
     simp only [ROC] at h
     obtain ⟨b,cap,_,_,_,h3⟩:=h
     have hne:xs≠[]:=by rintro rfl;simp at ho
     obtain ⟨_,g,off,cs,_,_,_,hX⟩:=h3 hne
     have hc1:=(ROX.at i hX ho.1).2
     simp only [AVal.get]
     exact ro_get r _ _ hc1 ho.2
   | own sz xs=>simp [ROC] at h
   | tup cs=>simp [ROC] at h
   | _=>simp [AVal.okg] at ho
theorem okg_rdy : ∀(r:List Nat) (x:AVal) (E:Env2) (c:List Value) (f:Foot),RdC w fz E x c f→x.okg r=true→isSl (x.get r)=true→Rdy x r
 | [],x,E,c,f,_,_,_=>.inl (by cases x <;> rfl)
 | i::r,x,E,c,f,h,ho,hs=>by
   have hro : ∀c,ROC w fz x c→Rdy x (i::r):=fun c hc=>by
    obtain ⟨c',h'⟩:=ro_get (i::r) x c hc ho
    right
    cases hg:x.get (i::r) <;> rw [hg] at hs h' <;> simp [isSl] at hs
    · rfl
    · simp [ROC] at h'
   rcases h with ⟨f1,hf1,h⟩|h
   · cases x with
     | agg cs=>
       simp only [AVal.okg,Bool.and_eq_true,Nat.blt_eq] at ho
       simp only [OwC] at h
       obtain ⟨v,g1,g2,_,hx,_,_⟩:=OwL.at i h ho.1
       have:=okg_rdy r _ E [v] g1 (.inl ⟨g1,fun _=>Nat.le_refl _,hx⟩) ho.2 (by simpa only [AVal.get] using hs)
       unfold Rdy at this ⊢
       simp only [AVal.okp,AVal.get,Bool.and_eq_true,Nat.blt_eq]
       exact this.imp (fun h=>⟨ho.1,h⟩) id
     | own sz cs=>
       simp only [AVal.okg,Bool.and_eq_true,Nat.blt_eq] at ho
       simp only [OwC] at h
       obtain ⟨b,cap,_,hle,h3⟩:=h
       have hne : ¬(cap=0 ∧ ∀b,f1 b=0):=by rintro ⟨h0,_⟩;omega
       obtain ⟨_,g,off,cs',f',_,_,_,hX,_⟩:=h3.resolve_left hne
       obtain ⟨c1,g1,g2,_,_,hx,_,_⟩:=OwX.at i hX ho.1
       have:=okg_rdy r _ NoE c1 g1 (.inl ⟨g1,fun _=>Nat.le_refl _,hx⟩) ho.2 (by simpa only [AVal.get] using hs)
       unfold Rdy at this ⊢
       simp only [AVal.okp,AVal.get,Bool.and_eq_true,Nat.blt_eq]
       exact this.imp (fun h=>⟨ho.1,h⟩) id
     | ro t sz xs=>
       simp only [OwC] at h
       exact hro c h.1
     | tup cs=>simp [OwC] at h
     | _=>simp [AVal.okg] at ho
   · exact hro c h
end
end Go.VK
namespace Go.VK
open AVal
section
variable {P:Program} {Φ:Ctx} {C:Oracle} {w w':World} {fz fz1 al:Nat→Prop} {p s:St} {a:Act} {O0 O2 OE:OM} {R RE:RM} {M:List Nat} {rf:List (Nat×List Nat)}
theorem slQ_isSl (x:AVal):slQ x=isSl x:=by cases x <;> rfl
def RefOK (s:St) (z:Nat×List Nat):Prop := ∃o,s.obj z.1=some o∧o.c.okg z.2=true∧isSl (o.c.get z.2)=true
theorem snap_ref {K:Nat} {q:List Nat} {v:AVal} (h:s.snap (.ref K q)=some (true,v)):RefOK s (K,q):=by
 simp only [St.snap,St.at] at h
 cases ho:s.obj K with
 | none=>rw [ho] at h;simp at h
 | some o=>
   rw [ho] at h
   simp only [Option.some.injEq,Prod.mk.injEq,Bool.and_eq_true] at h
   exact ⟨o,ho,h.1.1,by rw [←slQ_isSl];exact h.1.2⟩
theorem snapL_refs : ∀(xs:List AVal) (vs:List AVal),s.snapL xs=some (true,vs) → ∀z∈lentIn xs,RefOK s z
 | [],vs,_,z,hz=>by simp [lentIn] at hz
 | x::xs,vs,h,z,hz=>by
   simp only [St.snapL] at h
   cases h1:s.snap x with
   | none=>rw [h1] at h;simp at h
   | some r1=>
     obtain ⟨b1,v⟩:=r1
     cases h2:s.snapL xs with
     | none=>rw [h1,h2] at h;simp at h
     | some r2=>
       obtain ⟨b2,vs'⟩:=r2
       rw [h1,h2] at h
       simp only [Option.some.injEq,Prod.mk.injEq,Bool.and_eq_true] at h
       obtain ⟨⟨rfl,rfl⟩,rfl⟩:=h
       by_cases hx : ∃K q,x=.ref K q
       · obtain ⟨K,q,rfl⟩:=hx
         simp only [lentIn,List.mem_cons] at hz
         rcases hz with rfl|hz
         · exact snap_ref h1
         · exact snapL_refs xs vs' h2 z hz
       · have:lentIn (x::xs)=lentIn xs:=by cases x <;> simp only [lentIn] <;> exact absurd ⟨_,_,rfl⟩ hx
         rw [this] at hz
         exact snapL_refs xs vs' h2 z hz
theorem argv_refs {t:Nat} {x y:AVal} (h:argv Φ s t x=some (true,y)) : ∀z∈refsIn [x],RefOK s z:=by
 intro z hz
 unfold argv at h
 cases hT:Φ.ti t with
 | none=>rw [hT] at h;simp at h
 | some T=>
   rw [hT] at h
   simp only at h
   cases hs:s.snap x with
   | none=>rw [hs] at h;simp at h
   | some r=>
     obtain ⟨b,v⟩:=r
     rw [hs] at h
     have hb:b=true:=by
      simp only [Bool.cond_eq_ite] at h
      split at h
      · split at h
        · simp only [Option.some.injEq,Prod.mk.injEq,Bool.and_eq_true] at h;exact h.1.1
        · simp only [Option.some.injEq,Prod.mk.injEq,Bool.and_eq_true] at h;exact h.1.1
        · simp at h
      · simp at h
     subst hb
     cases x with
     | ref K q=>
       simp only [refsIn,List.mem_singleton] at hz
       subst hz
       exact snap_ref hs
     | agg xs=>
       simp only [refsIn,List.append_nil] at hz
       simp only [St.snap] at hs
       cases h3:s.snapL xs with
       | none=>rw [h3] at hs;simp at hs
       | some r=>
         obtain ⟨b2,vs2⟩:=r
         rw [h3] at hs
         simp only [Option.some.injEq,Prod.mk.injEq] at hs
         obtain ⟨rfl,_⟩:=hs
         exact snapL_refs xs vs2 h3 z hz
     | _=>simp [refsIn] at hz
theorem refsIn_cons (x:AVal) (xs:List AVal):refsIn (x::xs)=refsIn [x]++refsIn xs:=by
 cases x <;> simp [refsIn]
theorem refs_ok {muts ks:List Nat} : ∀(xs:List AVal) (ts:List Nat) (i j:Nat) (ys:List AVal),allArgs Φ s ks muts i j ts xs=some (true,ys) → ∀z∈refsIn (unlent muts i xs),RefOK s z
 | [],ts,i,j,ys,_,z,hz=>by simp [unlent,refsIn] at hz
 | x::xs,[],i,j,ys,h,_,_=>by simp [allArgs] at h
 | x::xs,t::ts,i,j,ys,h,z,hz=>by
   simp only [allArgs] at h
   cases hi:mem i muts with
   | true=>
     rw [hi] at h
     have hun:unlent muts i (x::xs)=unlent muts (i+1) xs:=by simp only [unlent,hi,cond_true]
     rw [hun] at hz
     simp only [cond_true] at h
     cases x with
     | ref K q=>
       simp only at h
       cases hr:allArgs Φ s ks muts (i+1) (j+1) ts xs with
       | none=>rw [hr] at h;simp at h
       | some r=>
         obtain ⟨d,us⟩:=r
         rw [hr] at h
         simp only [Option.some.injEq,Prod.mk.injEq] at h
         obtain ⟨rfl,_⟩:=h
         exact refs_ok xs ts _ _ us hr z hz
     | agg cs=>
       simp only at h
       cases hlc:lentCells j cs with
       | mk m us=>
         rw [hlc] at h
         simp only at h
         cases hr:allArgs Φ s ks muts (i+1) m ts xs with
         | none=>rw [hr] at h;simp at h
         | some r=>
           obtain ⟨d,us2⟩:=r
           rw [hr] at h
           simp only [Option.some.injEq,Prod.mk.injEq,Bool.and_eq_true] at h
           obtain ⟨⟨_,rfl⟩,_⟩:=h
           exact refs_ok xs ts _ _ us2 hr z hz
     | _=>simp at h
   | false=>
     rw [hi] at h
     have hun:unlent muts i (x::xs)=x::unlent muts (i+1) xs:=by simp only [unlent,hi,cond_false]
     rw [hun,refsIn_cons] at hz
     simp only [cond_false] at h
     cases ho:oneArg Φ s ks t x with
     | none=>rw [ho] at h;simp at h
     | some r1=>
       obtain ⟨b,y⟩:=r1
       cases hr:allArgs Φ s ks muts (i+1) j ts xs with
       | none=>rw [ho,hr] at h;simp at h
       | some r=>
         obtain ⟨d,us⟩:=r
         rw [ho,hr] at h
         simp only [Option.some.injEq,Prod.mk.injEq,Bool.and_eq_true] at h
         obtain ⟨⟨rfl,rfl⟩,_⟩:=h
         rcases List.mem_append.1 hz with hz|hz
         · unfold oneArg at ho
           cases hip:isPtr x with
           | false=>rw [hip] at ho;exact argv_refs (by simpa using ho) z hz
           | true=>cases x <;> simp [isPtr] at hip <;> simp [refsIn] at hz
         · exact refs_ok xs ts _ _ us hr z hz
theorem keysIn_facts : ∀(cs:List AVal) (acc:List Nat),(∀K∈acc,K∈passKeys.keysIn cs acc)∧(∀K q off,AVal.ptr K q off∈cs→K∈passKeys.keysIn cs acc)∧(acc.Nodup→(passKeys.keysIn cs acc).Nodup)∧(∀K∈passKeys.keysIn cs acc,K∈acc∨K∈keysL cs)
 | [],acc=>⟨fun _ h=>h,by simp,fun h=>h,fun _ h=>.inl h⟩
 | c::cs,acc=>by
   have flat:(∀K q off,c≠.ptr K q off)→passKeys.keysIn (c::cs) acc=passKeys.keysIn cs acc:=fun h=>by cases c <;> simp only [passKeys.keysIn] <;> exact absurd rfl (h _ _ _)
   by_cases hc : ∃K q off,c=.ptr K q off
   · obtain ⟨K,q,off,rfl⟩:=hc
     obtain ⟨acc',hacc,hK,hsub,hnd,hin⟩ : ∃acc',(bif mem K acc then acc else acc++[K])=acc'∧K∈acc'∧(∀J∈acc,J∈acc')∧(acc.Nodup→acc'.Nodup)∧(∀J∈acc',J∈acc∨J=K):=by
      cases hm:mem K acc with
      | true=>exact ⟨acc,rfl,mem_iff.1 hm,fun _ h=>h,fun h=>h,fun _ h=>.inl h⟩
      | false=>
        refine ⟨acc++[K],rfl,by simp,fun J h=>by simp [h],fun h => ?_,fun J h=>by simpa using h⟩
        rw [List.nodup_append]
        exact ⟨h,by simp,fun x hx y hy=>by simp only [List.mem_singleton] at hy;subst hy;rintro rfl;exact mem_false.1 hm hx⟩
     obtain ⟨h1,h2,h3,h4⟩:=keysIn_facts cs acc'
     simp only [passKeys.keysIn,hacc]
     refine ⟨fun J hJ=>h1 J (hsub J hJ),fun J q' off' hJ => ?_,fun h=>h3 (hnd h),fun J hJ => ?_⟩
     · rcases List.mem_cons.1 hJ with hJ|hJ
       · simp only [AVal.ptr.injEq] at hJ;rw [hJ.1];exact h1 K hK
       · exact h2 J q' off' hJ
     · rcases h4 J hJ with h|h
       · rcases hin J h with h|rfl
         · exact .inl h
         · exact .inr (by simp [keysL,AVal.keys])
       · exact .inr (by simp [keysL,h])
   · have hn : ∀K q off,c≠.ptr K q off:=fun K q off he=>hc ⟨K,q,off,he⟩
     rw [flat hn]
     obtain ⟨h1,h2,h3,h4⟩:=keysIn_facts cs acc
     refine ⟨h1,fun J q off hJ => ?_,h3,fun J hJ=>(h4 J hJ).imp id (fun h=>by simp [keysL,h])⟩
     rcases List.mem_cons.1 hJ with hJ|hJ
     · exact absurd hJ.symm (hn _ _ _)
     · exact h2 J q off hJ
theorem passKeys_facts : ∀(xs:List AVal) (acc:List Nat),(∀K∈acc,K∈passKeys xs acc)∧(∀K q off,AVal.ptr K q off∈xs→K∈passKeys xs acc)∧(∀f cs,AVal.clo f cs∈xs → ∀K q off,AVal.ptr K q off∈cs→K∈passKeys xs acc)∧(acc.Nodup→(passKeys xs acc).Nodup)∧(∀K∈passKeys xs acc,K∈acc∨K∈keysL xs)
 | [],acc=>⟨fun _ h=>h,by simp,by simp,fun h=>h,fun _ h=>.inl h⟩
 | x::xs,acc=>by
   by_cases hc:(∃K q off,x=.ptr K q off) ∨ ∃f cs,x=.clo f cs
   · obtain ⟨acc',hacc,hsub,hp,hcl,hnd,hin⟩ : ∃acc',passKeys (x::xs) acc=passKeys xs acc'∧(∀J∈acc,J∈acc')∧(∀K q off,x=.ptr K q off→K∈acc')∧(∀f cs,x=.clo f cs → ∀K q off,AVal.ptr K q off∈cs→K∈acc')∧(acc.Nodup→acc'.Nodup)∧(∀J∈acc',J∈acc∨J∈x.keys):=by
      rcases hc with ⟨K,q,off,rfl⟩|⟨f,cs,rfl⟩
      · refine ⟨bif mem K acc then acc else acc++[K],rfl,?_⟩
        obtain ⟨h1,h2,h3,h4⟩:=keysIn_facts [AVal.ptr K q off] acc
        simp only [passKeys.keysIn] at h1 h2 h3 h4
        exact ⟨h1,fun K' q' off' he=>by simp only [AVal.ptr.injEq] at he;rw [←he.1];exact h2 K q off (by simp),fun f cs he=>by simp at he,h3,fun J hJ=>(h4 J hJ).imp id (fun h=>by simpa [keysL] using h)⟩
      · obtain ⟨h1,h2,h3,h4⟩:=keysIn_facts cs acc
        exact ⟨_,rfl,h1,fun K q off he=>by simp at he,fun f' cs' he=>by simp only [AVal.clo.injEq] at he;rw [←he.2];exact h2,h3,fun J hJ=>(h4 J hJ).imp id (fun h=>by simpa [AVal.keys] using h)⟩
     obtain ⟨h1,h2,h3,h4,h5⟩:=passKeys_facts xs acc'
     rw [hacc]
     refine ⟨fun J hJ=>h1 J (hsub J hJ),fun K q off hK => ?_,fun f cs hf => ?_,fun h=>h4 (hnd h),fun K hK => ?_⟩
     · rcases List.mem_cons.1 hK with hK|hK
       · exact h1 K (hp K q off hK.symm)
       · exact h2 K q off hK
     · rcases List.mem_cons.1 hf with hf|hf
       · exact fun K q off hk=>h1 K (hcl f cs hf.symm K q off hk)
       · exact h3 f cs hf
     · rcases h5 K hK with h|h
       · exact (hin K h).imp id (fun h=>by simp [keysL,h])
       · exact .inr (by simp [keysL,h])
   · have hn1 : ∀K q off,x≠.ptr K q off:=fun K q off he=>hc (.inl ⟨K,q,off,he⟩)
     have hn2 : ∀f cs,x≠.clo f cs:=fun f cs he=>hc (.inr ⟨f,cs,he⟩)
     have:passKeys (x::xs) acc=passKeys xs acc:=by cases x <;> simp only [passKeys] <;> first|exact absurd rfl (hn1 _ _ _)|exact absurd rfl (hn2 _ _)
     rw [this]
     obtain ⟨h1,h2,h3,h4,h5⟩:=passKeys_facts xs acc
     refine ⟨h1,fun K q off hK => ?_,fun f cs hf => ?_,h4,fun K hK=>(h5 K hK).imp id (fun h=>by simp [keysL,h])⟩
     · rcases List.mem_cons.1 hK with hK|hK
       · exact absurd hK.symm (hn1 _ _ _)
       · exact h2 K q off hK
     · rcases List.mem_cons.1 hf with hf|hf
       · exact absurd hf.symm (hn2 _ _)
       · exact h3 f cs hf
theorem addKeys_facts : ∀(l acc:List Nat),(∀K∈acc,K∈addKeys l acc)∧(acc.Nodup→(addKeys l acc).Nodup)
 | [],acc=>⟨fun _ h=>h,fun h=>h⟩
 | K::r,acc=>by
   obtain ⟨acc',hacc,hsub,hnd⟩ : ∃acc',(bif mem K acc then acc else acc++[K])=acc'∧(∀J∈acc,J∈acc')∧(acc.Nodup→acc'.Nodup):=by
    cases hm:mem K acc with
    | true=>exact ⟨acc,rfl,fun _ h=>h,fun h=>h⟩
    | false=>
      refine ⟨acc++[K],rfl,fun J h=>by simp [h],fun h => ?_⟩
      rw [List.nodup_append]
      exact ⟨h,by simp,fun x hx y hy=>by simp only [List.mem_singleton] at hy;subst hy;rintro rfl;exact mem_false.1 hm hx⟩
   obtain ⟨h1,h2⟩:=addKeys_facts r acc'
   simp only [addKeys,hacc]
   exact ⟨fun J hJ=>h1 J (hsub J hJ),fun h=>h2 (hnd h)⟩
theorem passMore_facts : ∀(n:Nat) (ks:List Nat),(∀K∈ks,K∈passMore s n ks)∧(ks.Nodup→(passMore s n ks).Nodup)
 | 0,ks=>⟨fun _ h=>h,fun h=>h⟩
 | n+1,ks=>by
   simp only [passMore]
   cases kidsOf s ks with
   | nil=>exact ⟨fun _ h=>h,fun h=>h⟩
   | cons j js=>
     obtain ⟨h1,h2⟩:=addKeys_facts (j::js) ks
     obtain ⟨h3,h4⟩:=passMore_facts n (addKeys (j::js) ks)
     exact ⟨fun K hK=>h3 K (h1 K hK),fun h=>h4 (h2 h)⟩
theorem valKs_mem {O:OM} {ks:List Nat} {K:Nat}:K∈valKs O ks↔K∈ks ∧ ∃o,O K=some o∧o.box=false:=by
 simp only [valKs,List.mem_filter]
 constructor
 · rintro ⟨h1,h2⟩
   cases ho:O K with
   | none=>rw [ho] at h2;simp at h2
   | some o=>rw [ho] at h2;exact ⟨h1,o,rfl,by simpa using h2⟩
 · rintro ⟨h1,o,h2,h3⟩
   exact ⟨h1,by rw [h2];simp [h3]⟩
theorem tieP_ren {ks qs ks' qs':List Nat} {g:Nat→Nat} (hg : ∀K∈ks,g K∈ks') (hq : ∀K∈qs,g K∈qs') {cs:List AVal} (h:cs.all (tieP ks qs)=true):(cs.map (renP g)).all (tieP ks' qs')=true:=by
 rw [List.all_eq_true] at h ⊢
 intro x hx
 obtain ⟨c,hc,rfl⟩:=List.mem_map.1 hx
 have:=h c hc
 cases c <;> simp [tieP] at this
 · rfl
 · obtain ⟨rfl,hm⟩:=this
   simp [renP,tieP,mem_iff.2 (hg _ (mem_iff.1 hm))]
 · obtain ⟨rfl,hm⟩:=this
   simp [renP,tieP,mem_iff.2 (hq _ (mem_iff.1 hm))]
theorem tie1_ren {ks qs ks' qs':List Nat} {g:Nat→Nat} (hg : ∀K∈ks,g K∈ks') (hq : ∀K∈qs,g K∈qs') {x:AVal} (h:tie1 ks qs x=true):tie1 ks' qs' (ren1 g x)=true:=by
 cases x with
 | ptr K p off=>
   simp only [tie1,Bool.and_eq_true] at h
   simp only [ren1,tie1,h.1,mem_iff.2 (hg _ (mem_iff.1 h.2)),Bool.and_self]
 | clo f cs=>simp only [tie1] at h;simp only [ren1,tie1];exact tieP_ren hg hq h
 | _=>exact h
theorem tie_ren {ks qs ks' qs':List Nat} {g:Nat→Nat} (hg : ∀K∈ks,g K∈ks') (hq : ∀K∈qs,g K∈qs') {x:AVal} (h:tieV ks qs x=true):tieV ks' qs' (renC g x)=true:=by
 by_cases hx : ∃cs,x=.agg cs
 · obtain ⟨cs,rfl⟩:=hx
   simp only [tieV,renC] at h ⊢
   rw [List.all_eq_true] at h ⊢
   intro x hx
   obtain ⟨c,hc,rfl⟩:=List.mem_map.1 hx
   exact tie1_ren hg hq (h c hc)
 · have h2 : ¬ ∃cs,ren1 g x=.agg cs:=by rintro ⟨cs,he⟩;cases x <;> simp [ren1] at he;exact hx ⟨_,rfl⟩
   rw [renC_flat g hx,tieV_flat _ _ h2];rw [tieV_flat _ _ hx] at h;exact tie1_ren hg hq h
theorem renP_id {ks qs:List Nat} {g:Nat→Nat} (hg : ∀K∈ks,g K=K) (hq : ∀K∈qs,g K=K) : ∀{cs:List AVal},cs.all (tieP ks qs)=true→cs.map (renP g)=cs
 | [],_=>rfl
 | c::cs,h=>by
   simp only [List.all_cons,Bool.and_eq_true] at h
   rw [List.map_cons,renP_id hg hq h.2]
   have h1:=h.1
   cases c <;> simp [tieP] at h1
   · rfl
   · simp [renP,hg _ (mem_iff.1 h1.2)]
   · simp [renP,hq _ (mem_iff.1 h1.2)]
theorem ren1_id {ks qs:List Nat} {g:Nat→Nat} (hg : ∀K∈ks,g K=K) (hq : ∀K∈qs,g K=K) {x:AVal} (h:tie1 ks qs x=true):ren1 g x=x:=by
 cases x with
 | ptr K p off=>simp only [tie1,Bool.and_eq_true] at h;simp only [ren1,hg _ (mem_iff.1 h.2)]
 | clo f cs=>simp only [tie1] at h;simp only [ren1,renP_id hg hq h]
 | _=>rfl
theorem ren1s_id {ks qs:List Nat} {g:Nat→Nat} (hg : ∀K∈ks,g K=K) (hq : ∀K∈qs,g K=K) : ∀{cs:List AVal},cs.all (tie1 ks qs)=true→cs.map (ren1 g)=cs
 | [],_=>rfl
 | c::cs,h=>by
   simp only [List.all_cons,Bool.and_eq_true] at h
   rw [List.map_cons,ren1s_id hg hq h.2,ren1_id hg hq h.1]
theorem renC_id {ks qs:List Nat} {g:Nat→Nat} (hg : ∀K∈ks,g K=K) (hq : ∀K∈qs,g K=K) {x:AVal} (h:tieV ks qs x=true):renC g x=x:=by
 by_cases hx : ∃cs,x=.agg cs
 · obtain ⟨cs,rfl⟩:=hx
   simp only [tieV] at h;simp only [renC,ren1s_id hg hq h]
 · rw [renC_flat g hx];rw [tieV_flat _ _ hx] at h;exact ren1_id hg hq h
theorem tieP_low {ks qs:List Nat} {n:Nat} : ∀{cs:List AVal},cs.all (tieP ks qs)=true→cs.all (lowP n)=true→cs.all (tieP ks (qs.filter fun K=>Nat.blt K (passBase+n)))=true
 | [],_,_=>rfl
 | c::cs,h,k=>by
   simp only [List.all_cons,Bool.and_eq_true] at h k ⊢
   refine ⟨?_,tieP_low h.2 k.2⟩
   have h1:=h.1;have k1:=k.1
   cases c <;> simp [tieP] at h1 <;> simp [lowP] at k1
   · rfl
   · simp [tieP,h1]
   · obtain ⟨rfl,hm⟩:=h1
     simp only [tieP,List.isEmpty_nil,Bool.true_and]
     exact mem_iff.2 (List.mem_filter.2 ⟨mem_iff.1 hm,by simpa using k1⟩)
theorem tie1_low {ks qs:List Nat} {n:Nat} {x:AVal} (h:tie1 ks qs x=true) (k:low1 n x=true):tie1 ks (qs.filter fun K=>Nat.blt K (passBase+n)) x=true:=by
 cases x with
 | clo f cs=>simp only [tie1] at h ⊢;simp only [low1] at k;exact tieP_low h k
 | _=>exact h
theorem tie_low {ks qs:List Nat} {n:Nat} {x:AVal} (h:tieV ks qs x=true) (k:lowV n x=true):tieV ks (qs.filter fun K=>Nat.blt K (passBase+n)) x=true:=by
 by_cases hx : ∃cs,x=.agg cs
 · obtain ⟨cs,rfl⟩:=hx
   simp only [tieV,lowV,List.all_eq_true] at h k ⊢
   exact fun c hc=>tie1_low (h c hc) (k c hc)
 · rw [tieV_flat _ _ hx] at h ⊢
   refine tie1_low h ?_
   cases x <;> first|exact k|exact absurd ⟨_,rfl⟩ hx
theorem ren1s_ro (g:Nat→Nat) : ∀{cs:List AVal},noRoL cs=true→cs.map (ren1 g)=cs
 | [],_=>rfl
 | c::cs,h=>by
   simp only [noRoL,Bool.and_eq_true] at h
   rw [List.map_cons,ren1s_ro g h.2]
   cases c <;> first|rfl|(simp [noRo] at h)
theorem renC_ro (g:Nat→Nat) {x:AVal} (h:noRo x=true):renC g x=x:=by
 cases x with
 | agg cs=>simp only [noRo] at h;simp only [renC,ren1s_ro g h]
 | ptr _ _ _=>simp [noRo] at h
 | clo _ _=>simp [noRo] at h
 | _=>rfl
theorem renC_own (g:Nat→Nat) {x:AVal} (h:isOwnQ x=true):renC g x=x ∧ ∀ks qs,tieV ks qs x=true:=by
 cases x <;> simp [isOwnQ] at h <;> exact ⟨rfl,fun _ _=>rfl⟩
theorem keysN_mem {n K:Nat}:K∈keysN n ↔ ∃i,i<n∧K=passBase+i:=by
 simp only [keysN,List.mem_map,List.mem_range]
 exact ⟨fun ⟨i,h,e⟩=>⟨i,h,e.symm⟩,fun ⟨i,h,e⟩=>⟨i,h,e.symm⟩⟩
theorem pos_spec : ∀(ks:List Nat) (i:Nat) {K:Nat},K∈ks → ∃j,pos K ks i=i+j∧ks[j]? = some K
 | [],i,K,h=>by simp at h
 | J::r,i,K,h=>by
   simp only [pos]
   by_cases hJ:J=K
   · subst hJ;exact ⟨0,by simp⟩
   · rw [beq_ne hJ]
     simp only [cond_false]
     obtain ⟨j,h1,h2⟩:=pos_spec r (i+1) ((List.mem_cons.1 h).resolve_left (Ne.symm hJ))
     exact ⟨j+1,by omega,by simpa using h2⟩
theorem objsOf_spec {ka:List Nat} : ∀(ks:List Nat) (os:List VObj),objsOf s ka ks=some os→os.length=ks.length ∧ ∀(i K:Nat),ks[i]? = some K → ∃o,os[i]? = some (renVO (toN ka) o)∧s.obj K=some o∧tieV ka (valKs s.obj ka) o.c=true
 | [],os,h=>by simp only [objsOf,Option.some.injEq] at h;subst h;simp
 | K::r,os,h=>by
   simp only [objsOf] at h
   cases ho:s.obj K with
   | none=>rw [ho] at h;simp at h
   | some o=>
     cases hr:objsOf s ka r with
     | none=>rw [ho,hr] at h;simp at h
     | some os'=>
       rw [ho,hr] at h
       simp only [Bool.cond_eq_ite] at h
       split at h
       · rename_i hk
         simp only [Option.some.injEq] at h;subst h
         obtain ⟨h1,h2⟩:=objsOf_spec r os' hr
         refine ⟨by simp [h1],fun i J hJ => ?_⟩
         cases i with
         | zero=>
           simp only [List.getElem?_cons_zero,Option.some.injEq] at hJ
           subst hJ
           exact ⟨o,rfl,ho,hk⟩
         | succ i=>simpa using h2 i J (by simpa using hJ)
       · simp at h
theorem toN_keysN {n:Nat} : ∀K∈keysN n,toN (keysN n) K=K:=fun K hK=>by
 obtain ⟨j,h1,h2⟩:=pos_spec (keysN n) 0 hK
 have hj:j<n:=by simpa [keysN] using (List.getElem?_eq_some_iff.1 h2).1
 have:(keysN n)[j]? = some (passBase+j):=by simp [keysN,hj]
 rw [this] at h2
 simp only [toN,h1]
 have:=Option.some.inj h2
 omega
theorem toN_at {ks:List Nat} {K:Nat} (hK:K∈ks) : ∃j,toN ks K=passBase+j∧ks[j]? = some K:=by
 obtain ⟨j,h1,h2⟩:=pos_spec ks 0 hK
 exact ⟨j,by simp only [toN,h1];omega,h2⟩
theorem toN_mem {ks:List Nat} {n:Nat} (hn:ks.length≤n) : ∀K∈ks,toN ks K∈keysN n:=fun K hK=>by
 obtain ⟨j,h1,h2⟩:=pos_spec ks 0 hK
 have hj:=(List.getElem?_eq_some_iff.1 h2).1
 exact keysN_mem.2 ⟨j,by omega,by simp only [toN,h1];omega⟩
theorem lentH_len : ∀{l:List (Nat×List Nat)} {ls:List VObj} {vs:List Value} {gs:List Foot},LentH w fz O0 R l ls vs gs→ls.length=l.length∧vs.length=l.length∧gs.length=l.length
 | [],[],[],[],_=>⟨rfl,rfl,rfl⟩
 | (K,q)::l,o::ls,v::vs,g::gs,h=>by
   simp only [LentH] at h
   obtain ⟨h1,h2,h3⟩:=lentH_len h.2.2.2.2
   exact ⟨by simp [h1],by simp [h2],by simp [h3]⟩
 | (K,q)::l,[],vs,gs,h=>by simp [LentH] at h
 | (K,q)::l,o::ls,[],gs,h=>by simp [LentH] at h
 | (K,q)::l,o::ls,v::vs,[],h=>by simp [LentH] at h
 | [],o::ls,vs,gs,h=>by simp [LentH] at h
 | [],[],v::vs,gs,h=>by simp [LentH] at h
 | [],[],[],g::gs,h=>by simp [LentH] at h
theorem lentH_at : ∀{l:List (Nat×List Nat)} {ls:List VObj} {vs:List Value} {gs:List Foot},LentH w fz O0 R l ls vs gs → ∀(j K:Nat) (q:List Nat),l[j]? = some (K,q) → ∃o v g,ls[j]? = some o∧vs[j]? = some v∧gs[j]? = some g∧o.box=false∧isOwnQ o.c=true∧OwC w fz NoE o.c [v] g ∧ ∃u l,O0 K=some u∧walk w u.c (R K) q=some l∧hdOf w l=some v
 | [],[],[],[],_,j,K,q,hj=>by simp at hj
 | (K',q')::l,o::ls,v::vs,g::gs,h,j,K,q,hj=>by
   simp only [LentH] at h
   obtain ⟨h1,h2,h3,h4,h5⟩:=h
   cases j with
   | zero=>
     simp only [List.getElem?_cons_zero,Option.some.injEq,Prod.mk.injEq] at hj
     obtain ⟨rfl,rfl⟩:=hj
     exact ⟨o,v,g,rfl,rfl,rfl,h1,h2,h3,h4⟩
   | succ j=>simpa using lentH_at h5 j K q (by simpa using hj)
 | (K',q')::l,[],vs,gs,h,_,_,_,_=>by simp [LentH] at h
 | (K',q')::l,o::ls,[],gs,h,_,_,_,_=>by simp [LentH] at h
 | (K',q')::l,o::ls,v::vs,[],h,_,_,_,_=>by simp [LentH] at h
 | [],o::ls,vs,gs,h,_,_,_,_=>by simp [LentH] at h
 | [],[],v::vs,gs,h,_,_,_,_=>by simp [LentH] at h
 | [],[],[],g::gs,h,_,_,_,_=>by simp [LentH] at h
theorem sumF_le : ∀{gs:List Foot} {j:Nat} {g:Foot},gs[j]? = some g → ∀b,g b≤sumF gs b
 | [],j,g,h,b=>by simp at h
 | g0::gs,0,g,h,b=>by simp at h;subst h;simp only [sumF];omega
 | g0::gs,j+1,g,h,b=>by have:=sumF_le (gs:=gs) (j:=j) (by simpa using h) b;simp only [sumF];omega
theorem sumF_two : ∀{gs:List Foot} {j k:Nat} {g g':Foot},j≠k→gs[j]? = some g→gs[k]? = some g' → ∀b,g b+g' b≤sumF gs b
 | [],j,k,g,g',_,h,_,b=>by simp at h
 | g0::gs,0,0,g,g',hn,_,_,b=>absurd rfl hn
 | g0::gs,0,k+1,g,g',_,h,h',b=>by
   simp at h;subst h
   have:=sumF_le (gs:=gs) (j:=k) (by simpa using h') b;simp only [sumF];omega
 | g0::gs,j+1,0,g,g',_,h,h',b=>by
   simp at h';subst h'
   have:=sumF_le (gs:=gs) (j:=j) (by simpa using h) b;simp only [sumF];omega
 | g0::gs,j+1,k+1,g,g',hn,h,h',b=>by
   have:=sumF_two (gs:=gs) (j:=j) (k:=k) (by omega) (by simpa using h) (by simpa using h') b;simp only [sumF];omega
theorem LQ_of : ∀(l:List (Nat×List Nat)) (n:Nat),(∀j K q,l[j]? = some (K,q) → ∀v,EvP w O0 R (.ref K q) v→EvP w OE RE (.ref (passBase+(n+j)) []) v)→LQ w O0 R OE RE l n
 | [],n,_=>trivial
 | (K,q)::l,n,h=>by
   simp only [LQ]
   refine ⟨fun v hv=>by simpa using h 0 K q rfl v hv,LQ_of l (n+1) fun j K q hj v hv => ?_⟩
   have:=h (j+1) K q (by simpa using hj) v hv
   have e:n+1+j=n+(j+1):=by omega
   rw [e];exact this
end
end Go.VK
namespace Go.VK
open AVal
def RE (R:RM) (ks:List Nat) (lvs:List Value):RM:=fun K=>if K<passBase then R K else if K-passBase<ks.length then R (ks.getD (K-passBase) 0) else .val (lvs.getD (K-passBase-ks.length) undef)
def FE (F:Nat→Foot) (ks:List Nat) (gs:List Foot):Nat→Foot:=fun K=>if K<passBase then F K else if K-passBase<ks.length then F (ks.getD (K-passBase) 0) else gs.getD (K-passBase-ks.length) zf
def alE (w:World) (F:Nat→Foot) (ks:List Nat) (gs:List Foot) (b:Nat):Prop:=w.heap.size≤b∨(∃K∈ks,0<F K b)∨0<sumF gs b
def minus (O:OM) (ks:List Nat):OM:=fun K=>if K∈ks then none else O K
section
variable {P:Program} {Φ:Ctx} {C:Oracle} {w w':World} {fz fz1 al:Nat→Prop} {s s1:St} {a:Act} {O0:OM} {R:RM} {M:List Nat} {F:Nat→Foot}
theorem passed {ks:List Nat} {os ls:List VObj} {lent:List (Nat×List Nat)} {lvs:List Value} {gs:List Foot} (hos:objsOf s1 ks ks=some os) (hl:LentH w fz O0 R lent ls lvs gs) {K:Nat} {o:VObj} (h:objsM (os++ls) K=some o) :
 (∃i J u,K=passBase+i∧ks[i]? = some J∧os[i]? = some o∧s1.obj J=some u∧(tieV ks (valKs s1.obj ks) u.c=true∧o=renVO (toN ks) u)∧RE R ks lvs K=R J∧FE F ks gs K=F J) ∨
 (∃j J q v g,K=passBase+(ks.length+j)∧lent[j]? = some (J,q)∧ls[j]? = some o∧gs[j]? = some g∧lvs[j]? = some v∧RE R ks lvs K=.val v∧FE F ks gs K=g∧o.box=false∧isOwnQ o.c=true∧OwC w fz NoE o.c [v] g):=by
 obtain ⟨h1,h2⟩:=objsOf_spec ks os hos
 obtain ⟨l1,l2,l3⟩:=lentH_len hl
 by_cases hK:K<passBase
 · rw [objsM_lt _ hK] at h;simp at h
 · obtain ⟨i,rfl⟩ : ∃i,K=passBase+i:=⟨K-passBase,by omega⟩
   rw [objsM_at] at h
   have e:passBase+i-passBase=i:=by omega
   by_cases hi:i<ks.length
   · left
     have hks:ks[i]? = some ks[i]:=List.getElem?_eq_getElem hi
     obtain ⟨o',g1,g2,g3⟩:=h2 i _ hks
     have hoo:renVO (toN ks) o'=o:=by
      rw [List.getElem?_append_left (by omega),g1] at h;exact Option.some.inj h
     rw [hoo] at g1
     have hgd:ks.getD i 0=ks[i]:=by simp [List.getD_eq_getElem?_getD,hks]
     exact ⟨i,ks[i],o',rfl,hks,g1,g2,⟨g3,hoo.symm⟩,by unfold RE;rw [if_neg (by omega),e,if_pos hi,hgd],by unfold FE;rw [if_neg (by omega),e,if_pos hi,hgd]⟩
   · right
     rw [List.getElem?_append_right (by omega),h1] at h
     obtain ⟨j,rfl⟩ : ∃j,i=ks.length+j:=⟨i-ks.length,by omega⟩
     have e2:ks.length+j-ks.length=j:=by omega
     rw [e2] at h
     have hj:j<lent.length:=by rw [←l1];exact (List.getElem?_eq_some_iff.1 h).1
     obtain ⟨o',v,g,k1,k2,k3,k4,k5,k6,k7⟩:=lentH_at hl j lent[j].1 lent[j].2 (List.getElem?_eq_getElem hj)
     rw [h] at k1;obtain rfl:=Option.some.inj k1
     refine ⟨j,lent[j].1,lent[j].2,v,g,rfl,List.getElem?_eq_getElem hj,h,k3,k2,?_,?_,k4,k5,k6⟩
     · unfold RE;rw [if_neg (by omega),e,if_neg hi,e2];simp [List.getD_eq_getElem?_getD,k2]
     · unfold FE;rw [if_neg (by omega),e,if_neg hi,e2];simp [List.getD_eq_getElem?_getD,k3]
theorem OwO.free {w0:World} {O O':OM} {R' R'':RM} {fz1:Nat→Prop} {o:VObj} {l:VK.Loc} {f:Foot} {w1 w2:World} (hk:o.c.keys=[]) (hf : ∀b,fz b→fz1 b) (h:OwO w0 fz (EvR w1 O R') o l f):OwO w0 fz1 (EvR w2 O' R'') o l f:=by
 have h2:=OwO.mono (fz':=fz1) (fun b hb=>⟨hf b hb,rfl⟩) (fun _ _=>rfl) h
 unfold OwO at h2 ⊢
 split
 · rename_i hb
   rw [if_pos hb] at h2
   obtain ⟨b,cs,f',k1,k2,k3,k4⟩:=h2
   exact ⟨b,cs,f',k1,k2,noKeys_E _ _ _ hk k3,k4⟩
 · rename_i hb
   rw [if_neg hb] at h2
   obtain ⟨v,k1,k2,k3⟩:=h2
   exact ⟨v,k1,noKeys_E _ _ _ hk k2,k3⟩
theorem nodup_inj {ks:List Nat} (h:ks.Nodup) {i j K:Nat} (hi:ks[i]? = some K) (hj:ks[j]? = some K):i=j:=by
 obtain ⟨h1,h2⟩:=List.getElem?_eq_some_iff.1 hi
 obtain ⟨h3,h4⟩:=List.getElem?_eq_some_iff.1 hj
 exact (List.getElem_inj h).1 (h2.trans h4.symm)
theorem entry_ok {ks muts ts:List Nat} {os ls:List VObj} {lent rf:List (Nat×List Nat)} {lvs:List Value} {gs:List Foot} {xs ys:List AVal} {vals:List Value}
 (hm:Mid M O0 s1) (h1:RelO w fz al (EvR w O0 R) (Amb M O0 s1) R F (sumF gs)) (hlent:LentH w fz O0 R lent ls lvs gs) (hos:objsOf s1 ks ks=some os) (hks : ∀K∈ks,∀o,s1.obj K=some o→O0 K=some o)
 (hksM : ∀K∈ks,K∈M) (p2 : ∀K q off,AVal.ptr K q off∈xs→K∈ks) (p3 : ∀f cs,AVal.clo f cs∈xs → ∀K q off,AVal.ptr K q off∈cs→K∈ks) (hnd:ks.Nodup) (hll:lent=lentOf muts 0 xs) (hrf:rf=refsIn (unlent muts 0 xs)) (_hgl : ∀b,0<sumF gs b→b<w.heap.size)
 (hargs:allArgs Φ { s1 with objs:=delAll s1.objs ks } ks muts 0 ks.length ts xs=some (true,ys)) (hxs:EvL w fz O0 R xs vals) :
 ∃(fz1:Nat→Prop) (F2:Nat→Foot),RelO w fz1 al (EvR w O0 R) (frzO (minus (Amb M O0 s1) ks) rf) R F2 (sumF gs)∧(∀b,fz b→fz1 b)∧(∀b,fz1 b→fz b ∨ ∃x∈rf,0<F x.1 b)∧(∀J b,F2 J b≤F J b) ∧
  ((∀x∈rf,∀o,minus (Amb M O0 s1) ks x.1=some o→roQ (o.c.get x.2)=true) → ∀b,fz1 b→fz b)∧(∀J b,0<F J b→fz1 b∨F2 J b=F J b) ∧
  (∀K o,minus (Amb M O0 s1) ks K=some o → ∃o',frzO (minus (Amb M O0 s1) ks) rf K=some o'∧o'.box=o.box ∧ ∀(w2:World) l' q,walk w2 o'.c l' q=walk w2 o.c l' q)∧(∀K,minus (Amb M O0 s1) ks K=none→frzO (minus (Amb M O0 s1) ks) rf K=none)∧(∀J,(∀x∈rf,J≠x.1)→frzO (minus (Amb M O0 s1) ks) rf J=minus (Amb M O0 s1) ks J)∧(∀x∈rf,x.1∉ks∧x.1∈M ∧ ∃o,minus (Amb M O0 s1) ks x.1=some o∧isSl (o.c.get x.2)=true)∧(∀b,fz1 b → ¬alE w F ks gs b) ∧
  Entry w fz1 (alE w F ks gs) ys (os++ls) vals (RE R ks lvs) (FE F ks gs):=by
 have hsub : ∀K o,minus (Amb M O0 s1) ks K=some o→Amb M O0 s1 K=some o:=fun K o ho=>by
  simp only [minus] at ho;split at ho
  · simp at ho
  · exact ho
 have h2:RelO w fz al (EvR w O0 R) (minus (Amb M O0 s1) ks) R F (sumF gs):=
  ⟨fun K o ho=>h1.obj K o (hsub K o ho),fun K o ho=>h1.one K o (hsub K o ho),fun K o J u hn ho hu=>h1.dis K o J u hn (hsub K o ho) (hsub J u hu),fun K o ho=>h1.own K o (hsub K o ho),h1.g1,fun K o ho=>h1.gd K o (hsub K o ho),h1.go,h1.lt⟩
 have hs2 : ∀K o,({ s1 with objs:=delAll s1.objs ks }:St).obj K=some o→minus (Amb M O0 s1) ks K=some o ∧ ∃u,O0 K=some u:=fun K o ho=>by
  simp only [St.obj,lk_delAll] at ho
  split at ho
  · simp at ho
  · rename_i hk
    obtain ⟨u,hu,_⟩:=hm.old K o ho
    exact ⟨by simp only [minus,if_neg hk,Amb,if_pos (hm.seen K o ho)];exact ho,u,hu⟩
 have hrefs : ∀x∈rf,∃o,minus (Amb M O0 s1) ks x.1=some o∧o.c.okg x.2=true∧isSl (o.c.get x.2)=true:=fun x hx=>by
  obtain ⟨o,ho,k1,k2⟩:=refs_ok xs ts 0 ks.length ys hargs x (by rw [←hrf];exact hx)
  exact ⟨o,(hs2 x.1 o ho).1,k1,k2⟩
 have hrfk : ∀x∈rf,x.1∉ks:=fun x hx hk=>by
  obtain ⟨o,ho,_⟩:=hrefs x hx
  simp only [minus,if_pos hk] at ho;simp at ho
 obtain ⟨fz1,F2,k1,k2,k3,k4,k5,k6,k6',k7,k8⟩:=RelO.freeze rf h2 (fun x hx=>by obtain ⟨o,ho,_,h⟩:=hrefs x hx;exact ⟨o,ho,h⟩)
 have hfro:=frz_ro rf (minus (Amb M O0 s1) ks) (fun x hx=>by
  obtain ⟨o,ho,g1,g2⟩:=hrefs x hx
  obtain ⟨c,f0,g3,_⟩:=(h2.obj x.1 o ho).loc
  exact ⟨o,ho,g2,okg_rdy x.2 o.c _ c f0 (.inl ⟨f0,fun _=>Nat.le_refl _,g3⟩) g1 g2⟩)
 have hFz:Frozen w fz fz1 O0 (minus (Amb M O0 s1) ks) R rf:=by
  refine ⟨k2,fun x hx o u ho hu hok val hev => ?_⟩
  obtain ⟨o',ho',hro⟩:=hfro x hx
  obtain ⟨o'',g1,g2,g3,g4,g5,_⟩:=k7 x.1 o ho
  rw [ho'] at g1;obtain rfl:=Option.some.inj g1
  obtain ⟨l,c,f,r1,r2,r3⟩:=k1.read ho' (q:=x.2) (by rw [g5];exact hok)
  simp only [EvP] at hev
  obtain ⟨u',l',hu',hw',hh,_⟩:=hev
  rw [hu] at hu';obtain rfl:=Option.some.inj hu'
  have hho:Holes u.c o.c:=by
   have:=hsub x.1 o ho
   simp only [Amb] at this
   split at this
   · obtain ⟨u',q1,_,q3,_⟩:=hm.old x.1 o this
     rw [hu] at q1;obtain rfl:=Option.some.inj q1;exact q3
   · rw [hu] at this;obtain rfl:=Option.some.inj this;exact .refl _
  rw [g3,hho.walkg _ _ hok,hw'] at r1
  obtain rfl:=Option.some.inj r1
  have hrc:ROC w fz1 (o'.c.get x.2) c:=by
   rcases r3 with ⟨f1,_,h⟩|h
   · cases hg:o'.c.get x.2 <;> rw [hg] at hro h <;> simp [roQ] at hro
     simp only [OwC] at h;exact h.1
   · exact h
  have hasr:asRo (o.c.get x.2)=o'.c.get x.2:=by
   rw [←g4]
   cases hg:o'.c.get x.2 <;> rw [hg] at hro <;> simp [roQ] at hro
   rfl
  rw [hasr]
  obtain ⟨v,rfl⟩ : ∃v,c=[v]:=by
   cases hg:o'.c.get x.2 <;> rw [hg] at hro hrc <;> simp [roQ] at hro
   obtain ⟨b,cap,h1,_⟩:=ro_val' hrc
   exact ⟨_,h1⟩
  have:=r2.hd
  rw [hh] at this
  rw [Option.some.inj this];exact hrc
 have hpk : ∀K∈ks,∀v q off,EvP w O0 R (.ptr K q off) v→EvP w (objsM (os++ls)) (RE R ks lvs) (.ptr (passBase+pos K ks 0) q off) v:=by
  intro K hK v q off hv
  obtain ⟨i,hi1,hi2⟩:=pos_spec ks 0 hK
  simp only [Nat.zero_add] at hi1
  rw [hi1]
  obtain ⟨o,g1,g2,g3⟩:=(objsOf_spec ks os hos).2 i K hi2
  have hi:=(List.getElem?_eq_some_iff.1 hi2).1
  have hoe:objsM (os++ls) (passBase+i)=some (renVO (toN ks) o):=by
   rw [objsM_at,List.getElem?_append_left (by rw [(objsOf_spec ks os hos).1];exact hi)];exact g1
  rcases passed (F:=F) hos hlent hoe with ⟨i',J,_,e1,e2,_,_,_,e5,_⟩|⟨j,_,_,_,_,e1,_⟩
  · have:i'=i:=by omega
    subst this
    rw [hi2] at e2;obtain rfl:=Option.some.inj e2
    simp only [EvP] at hv ⊢
    obtain ⟨u,b,r,hu,hw,rfl⟩:=hv
    rw [hks K hK o g2] at hu;obtain rfl:=Option.some.inj hu
    exact ⟨_,b,r,hoe,by rw [e5];simp only [renVO,walk_renC];exact hw,rfl⟩
  · omega
 have hpv : ∀K∈valKs s1.obj ks,∀v,EvP w O0 R (.ref K []) v→EvP w (objsM (os++ls)) (RE R ks lvs) (.ref (passBase+pos K ks 0) []) v:=by
  intro K hKv v hv
  have hK:=(valKs_mem.1 hKv).1
  obtain ⟨i,hi1,hi2⟩:=pos_spec ks 0 hK
  simp only [Nat.zero_add] at hi1
  rw [hi1]
  obtain ⟨o,g1,g2,g3⟩:=(objsOf_spec ks os hos).2 i K hi2
  have hi:=(List.getElem?_eq_some_iff.1 hi2).1
  have hoe:objsM (os++ls) (passBase+i)=some (renVO (toN ks) o):=by
   rw [objsM_at,List.getElem?_append_left (by rw [(objsOf_spec ks os hos).1];exact hi)];exact g1
  rcases passed (F:=F) hos hlent hoe with ⟨i',J,_,e1,e2,_,_,_,e5,_⟩|⟨j,_,_,_,_,e1,_⟩
  · have:i'=i:=by omega
    subst this
    rw [hi2] at e2;obtain rfl:=Option.some.inj e2
    simp only [EvP] at hv ⊢
    obtain ⟨u,l,hu,hw,hh,ho1⟩:=hv
    rw [walk_nil] at hw
    exact ⟨_,l,hoe,by rw [walk_nil,e5];exact hw,hh,ho1⟩
  · omega
 have hlq:LQ w O0 R (objsM (os++ls)) (RE R ks lvs) lent ks.length:=LQ_of lent ks.length fun j K q hj v hv=>by
  obtain ⟨o,v',g,r1,r2,r3,r4,r5,r6,u,l,r7,r8,r9⟩:=lentH_at hlent j K q hj
  simp only [EvP] at hv ⊢
  obtain ⟨u',l',q1,q2,q3,q4⟩:=hv
  rw [r7] at q1;obtain rfl:=Option.some.inj q1
  rw [r8] at q2;obtain rfl:=Option.some.inj q2
  rw [r9] at q3;obtain rfl:=Option.some.inj q3
  have hol:=(objsOf_spec ks os hos).1
  have hoe:objsM (os++ls) (passBase+(ks.length+j))=some o:=by
   rw [objsM_at,List.getElem?_append_right (by omega),hol]
   have:ks.length+j-ks.length=j:=by omega
   rw [this];exact r1
  refine ⟨o,.val v',hoe,?_,rfl,q4⟩
  rw [walk_nil]
  rcases passed (F:=F) hos hlent hoe with ⟨i',J,_,e1,e2,_⟩|⟨j',_,_,v2,_,e1,_,_,_,e4,e5,_⟩
  · have:=(List.getElem?_eq_some_iff.1 e2).1;omega
  · have:j'=j:=by omega
    subst this
    rw [r2] at e4;obtain rfl:=Option.some.inj e4
    rw [e5]
 have hev:=args_ok (OE:=objsM (os++ls)) (RE:=RE R ks lvs) (muts:=muts) hFz hs2 hpk xs ts 0 ks.length ys vals hargs hxs p2 p3 (by rw [hrf];exact fun z hz=>hz) (by rw [←hll];exact hlq)
 have hAk : ∀i J o,ks[i]? = some J→s1.obj J=some o→Amb M O0 s1 J=some o:=fun i J o hJ ho=>by
  have hJM:=hksM J (List.mem_of_getElem? hJ)
  simp only [Amb,if_pos hJM];exact ho
 have hfzk : ∀J o b,J∈ks→Amb M O0 s1 J=some o→0<F J b → ¬fz1 b:=fun J o b hJ ho hb hf=>by
  rcases k3 b hf with hf|⟨x,hx,hf⟩
  · exact (h1.own J o ho b hb).2 hf
  · obtain ⟨u,hu,_⟩:=hrefs x hx
    have hn:J≠x.1:=fun he=>hrfk x hx (he▸hJ)
    have:=h1.dis J o x.1 u hn ho (hsub _ _ hu) b;omega
 have hfzg : ∀b,0<sumF gs b → ¬fz1 b:=fun b hb hf=>by
  rcases k3 b hf with hf|⟨x,hx,hf⟩
  · exact (h1.go b hb).2 hf
  · obtain ⟨u,hu,_⟩:=hrefs x hx
    have:=h1.gd x.1 u (hsub _ _ hu) b;omega
 refine ⟨fz1,F2,k1,k2,k3,k4,k6,k6',fun K o ho=>by obtain ⟨o',a1,a2,a3,_⟩:=k7 K o ho;exact ⟨o',a1,a2,a3⟩,k8,fun J hJ=>(k5 J hJ).2,fun x hx=>⟨hrfk x hx,?_⟩,fun b hb => ?_,⟨hev,⟨fun K o ho => ?_,fun K o ho b => ?_,fun K o J u hn ho hu b => ?_,fun K o ho b hb => ?_,fun _=>Nat.zero_le _,fun _ _ _ _=>.inr rfl,fun b hb=>by simp [zf] at hb,k1.lt⟩,fun b hb=>.inl hb,fun o ho => ?_⟩⟩
 · obtain ⟨o,ho,_,k2⟩:=refs_ok xs ts 0 ks.length ys hargs x (by rw [←hrf];exact hx)
   have ho2:=ho
   simp only [St.obj,lk_delAll] at ho2
   split at ho2
   · simp at ho2
   · exact ⟨hm.seen _ _ ho2,o,(hs2 x.1 o ho).1,k2⟩
 · rintro (h|⟨J,hJ,h⟩|h)
   · have:=k1.lt b hb;omega
   · obtain ⟨i,hi⟩:=List.getElem?_of_mem hJ
     obtain ⟨o,_,g2,_⟩:=(objsOf_spec ks os hos).2 i J hi
     exact hfzk J o b hJ (hAk i J o hi g2) h hb
   · exact hfzg b h hb
 · rcases passed (F:=F) hos hlent ho with ⟨i,J,u,_,e2,_,e4,⟨e5,e5'⟩,e6,e7⟩|⟨j,J,q,v,g,_,_,_,_,_,e6,e7,e8,e9,e10⟩
   · rw [e6,e7,e5'];exact OwO.tie (ks:=ks) (qs:=valKs s1.obj ks) (fun K hK v off h=>hpk K hK v [] off h) hpv e5 k2 (h1.obj J u (hAk i J u e2 e4))
   · rw [e6,e7]
     unfold OwO;rw [if_neg (by simp [e8])]
     refine ⟨v,rfl,OwC.mono (fun b hb=>⟨k2 b hb,rfl⟩) _ NoE _ (fun _ _ _ h=>h.elim) _ _ (fun _ _=>rfl) e10,?_⟩
     exact isOwnQ_agg e9
 · rcases passed (F:=F) hos hlent ho with ⟨i,J,u,_,e2,_,e4,e5,e6,e7⟩|⟨j,J,q,v,g,_,_,_,e4,_,e6,e7,e8,e9,e10⟩
   · rw [e7];exact h1.one J u (hAk i J u e2 e4) b
   · rw [e7];exact Nat.le_trans (sumF_le e4 b) (h1.g1 b)
 · rcases passed (F:=F) hos hlent ho with ⟨i,I,o2,a1,a2,_,a4,a5,a6,a7⟩|⟨j,I,q,v,g,a1,_,_,a4,_,a6,a7,_⟩ <;>
    rcases passed (F:=F) hos hlent hu with ⟨i',I',u2,b1,b2,_,b4,b5,b6,b7⟩|⟨j',I',q',v',g',b1,_,_,b4,_,b6,b7,_⟩
   · rw [a7,b7]
     have hII:I≠I':=by rintro rfl;exact hn (by rw [a1,b1,nodup_inj hnd a2 b2])
     exact h1.dis I o2 I' u2 hII (hAk i I o2 a2 a4) (hAk i' I' u2 b2 b4) b
   · rw [a7,b7]
     have:=h1.gd I o2 (hAk i I o2 a2 a4) b;have:=sumF_le b4 b;omega
   · rw [a7,b7]
     have:=h1.gd I' u2 (hAk i' I' u2 b2 b4) b;have:=sumF_le a4 b;omega
   · rw [a7,b7]
     have hjj:j≠j':=by rintro rfl;exact hn (by rw [a1,b1])
     have:=sumF_two hjj a4 b4 b;have:=h1.g1 b;omega
 · rcases passed (F:=F) hos hlent ho with ⟨i,J,u,_,e2,_,e4,e5,e6,e7⟩|⟨j,J,q,v,g,_,_,_,e4,_,e6,e7,e8,e9,e10⟩
   · rw [e7] at hb
     exact ⟨.inr (.inl ⟨J,List.mem_of_getElem? e2,hb⟩),hfzk J u b (List.mem_of_getElem? e2) (hAk i J u e2 e4) hb⟩
   · rw [e7] at hb
     have:=Nat.lt_of_lt_of_le hb (sumF_le e4 b)
     exact ⟨.inr (.inr this),hfzg b this⟩
 · rcases List.mem_append.1 ho with ho|ho
   · obtain ⟨i,hi⟩:=List.getElem?_of_mem ho
     have hil:i<ks.length:=by rw [←(objsOf_spec ks os hos).1];exact (List.getElem?_eq_some_iff.1 hi).1
     obtain ⟨o',g1,_,g3⟩:=(objsOf_spec ks os hos).2 i _ (List.getElem?_eq_getElem hil)
     rw [hi] at g1;obtain rfl:=Option.some.inj g1
     refine tie_ren (toN_mem (by rw [List.length_append,(objsOf_spec ks os hos).1];omega)) (fun K hK => ?_) g3
     obtain ⟨hK1,u,hu,hub⟩:=valKs_mem.1 hK
     obtain ⟨j,hj1,hj2⟩:=toN_at hK1
     obtain ⟨o2,q1,q2,_⟩:=(objsOf_spec ks os hos).2 j K hj2
     rw [hu] at q2;obtain rfl:=Option.some.inj q2
     have hjl:j<os.length:=(List.getElem?_eq_some_iff.1 q1).1
     refine valKs_mem.2 ⟨toN_mem (by rw [List.length_append,(objsOf_spec ks os hos).1];omega) K hK1,renVO (toN ks) u,?_,hub⟩
     rw [hj1,objsM_at,List.getElem?_append_left hjl];exact q1
   · obtain ⟨j,hj⟩:=List.getElem?_of_mem ho
     have hjl:j<lent.length:=by rw [←(lentH_len hlent).1];exact (List.getElem?_eq_some_iff.1 hj).1
     obtain ⟨o',v,g,r1,_,_,_,r5,_⟩:=lentH_at hlent j lent[j].1 lent[j].2 (List.getElem?_eq_getElem hjl)
     rw [hj] at r1;obtain rfl:=Option.some.inj r1
     exact (renC_own id r5).2 _ _
end
end Go.VK
namespace Go.VK
open AVal
section
variable {P:Program} {Φ:Ctx} {C:Oracle} {w w':World} {fz fz1 al:Nat→Prop} {s s1:St} {a:Act} {O0:OM} {R:RM} {M:List Nat} {F:Nat→Foot}
def Off (q r:List Nat):Prop:=pre q r=false∧pre r q=false
theorem pre_nil (q:List Nat):pre [] q=true:=by cases q <;> rfl
theorem put_off : ∀(q r:List Nat) (x y:AVal),Off q r→(x.put q y).okp r=x.okp r∧(∀l,walk w (x.put q y) l r=walk w x l r)∧(x.put q y).get r=x.get r
 | [],r,x,y,h=>by simp [Off,pre_nil] at h
 | i::q,[],x,y,h=>by simp [Off,pre] at h
 | i::q,j::r,x,y,h=>by
   have key : ∀cs:List AVal,j<cs.length→(((cs.set i ((cs.getD i .und).put q y)).getD j .und).okp r=(cs.getD j .und).okp r)∧(∀l,walk w ((cs.set i ((cs.getD i .und).put q y)).getD j .und) l r=walk w (cs.getD j .und) l r)∧((cs.set i ((cs.getD i .und).put q y)).getD j .und).get r=(cs.getD j .und).get r:=by
    intro cs hj
    by_cases hij:i=j
    · subst hij
      rw [getD_set_same hj]
      exact put_off q r _ y (by simpa [Off,pre] using h)
    · rw [getD_set_ne hij];exact ⟨rfl,fun _=>rfl,rfl⟩
   have key2 : ∀cs:List AVal,¬j<cs.length→((cs.set i ((cs.getD i .und).put q y)).getD j .und)=cs.getD j .und:=by
    intro cs hj
    have h1:cs.length≤j:=by omega
    have h2:(cs.set i ((cs.getD i .und).put q y)).length≤j:=by rw [List.length_set];exact h1
    have g1:cs.getD j .und=.und:=by rw [List.getD_eq_getElem?_getD,List.getElem?_eq_none h1];rfl
    rw [g1,List.getD_eq_getElem?_getD,List.getElem?_eq_none h2];rfl
   cases x with
   | agg cs=>
     simp only [AVal.put,AVal.okp,AVal.get,List.length_set]
     by_cases hj:j<cs.length
     · obtain ⟨h1,h2,h3⟩:=key cs hj
       refine ⟨by rw [h1],fun l => ?_,h3⟩
       cases l with
       | val v=>simp [walk]
       | mem b o=>simp only [walk,List.length_set];rw [if_pos hj,if_pos hj,h2]
     · rw [key2 cs hj]
       refine ⟨rfl,fun l => ?_,rfl⟩
       cases l with
       | val v=>simp [walk]
       | mem b o=>simp only [walk,List.length_set];rw [if_neg hj,if_neg hj]
   | own sz cs=>
     simp only [AVal.put,AVal.okp,AVal.get,List.length_set]
     by_cases hj:j<cs.length
     · obtain ⟨h1,h2,h3⟩:=key cs hj
       refine ⟨by rw [h1],fun l => ?_,h3⟩
       simp only [walk,List.length_set]
       rw [if_pos hj,if_pos hj]
       cases hdOf w l with
       | none=>rfl
       | some v=>cases v <;> try rfl
                 rename_i a n m;cases a <;> try rfl
                 exact h2 _
     · rw [key2 cs hj]
       exact ⟨rfl,fun l=>by simp only [walk,List.length_set];rw [if_neg hj,if_neg hj],rfl⟩
   | tup cs=>
     simp only [AVal.put,AVal.okp,AVal.get,List.length_set]
     by_cases hj:j<cs.length
     · obtain ⟨h1,h2,h3⟩:=key cs hj
       exact ⟨by rw [h1],fun l=>by simp [walk],h3⟩
     · rw [key2 cs hj]
       exact ⟨rfl,fun l=>by simp [walk],rfl⟩
   | _=>exact ⟨rfl,fun _=>rfl,rfl⟩
theorem lentApart_off : ∀{l:List (Nat×List Nat)},lentApart l=true → ∀(i j K:Nat) (q r:List Nat),i≠j→l[i]? = some (K,q)→l[j]? = some (K,r)→Off q r
 | [],_,i,j,K,q,r,_,h,_=>by simp at h
 | (K',q')::l,h,i,j,K,q,r,hn,hi,hj=>by
   simp only [lentApart,Bool.and_eq_true,List.all_eq_true,Bool.or_eq_true,Bool.not_eq_true',Bool.or_eq_false_iff] at h
   cases i with
   | zero=>
     cases j with
     | zero=>exact absurd rfl hn
     | succ j=>
       simp only [List.getElem?_cons_zero,Option.some.injEq,Prod.mk.injEq] at hi
       obtain ⟨rfl,rfl⟩:=hi
       have:=h.1 (K',r) (List.mem_of_getElem? (by simpa using hj))
       exact this.resolve_left (by simp)
   | succ i=>
     cases j with
     | zero=>
       simp only [List.getElem?_cons_zero,Option.some.injEq,Prod.mk.injEq] at hj
       obtain ⟨rfl,rfl⟩:=hj
       have:=h.1 (K',q) (List.mem_of_getElem? (by simpa using hi))
       exact (this.resolve_left (by simp)).symm
     | succ j=>exact lentApart_off h.2 i j K q r (by omega) (by simpa using hi) (by simpa using hj)
theorem cell_at {vs:List AVal} {i:Nat} {v:AVal} {r:List AVal} (hd:vs.drop i=v::r):(AVal.agg vs).cell i=v∧vs.drop (i+1)=r:=by
 have:vs[i]? = some v:=by
  have:=congrArg (fun l:List AVal=>l[0]?) hd
  simpa [List.getElem?_drop] using this
 exact ⟨by simp [AVal.cell,AVal.cells,this],by rw [←List.drop_drop,hd];rfl⟩
theorem samePs_eq : ∀{cs ds:List AVal},samePs cs ds=true→cs=ds
 | [],[],_=>rfl
 | [],d::ds,h=>by simp [samePs] at h
 | c::cs,[],h=>by cases c <;> simp [samePs] at h
 | c::cs,d::ds,h=>by
   cases c <;> cases d <;> simp [samePs] at h
   · rw [samePs_eq h]
   · obtain ⟨rfl,rfl,rfl,h⟩:=h
     rw [samePs_eq h]
   · obtain ⟨rfl,rfl,h⟩:=h
     rw [samePs_eq h]
mutual
theorem like_ok {E:Env2} : ∀(a b:AVal) (c:List Value) (f:Foot),skel a b=true→(a=.und → ∃v,c=[v])→OwC w fz E b c f → ∃f':Foot,(∀i,f' i≤f i)∧OwC w fz E (like a b) c f'
 | .bool _,b,c,f,h,_,ho=>by cases b <;> simp [skel] at h;exact ⟨f,fun _=>Nat.le_refl _,by simpa only [like,AVal.toBool] using ho⟩
 | .int k _,b,c,f,h,_,ho=>by cases b <;> simp [skel] at h;subst h;exact ⟨f,fun _=>Nat.le_refl _,by simpa only [like,AVal.toInt] using ho⟩
 | .str _,b,c,f,h,_,ho=>by cases b <;> simp [skel] at h;exact ⟨f,fun _=>Nat.le_refl _,by simpa only [like,AVal.toStr] using ho⟩
 | .own sz _,b,c,f,h,_,ho=>by cases b <;> simp [skel] at h;subst h;exact ⟨f,fun _=>Nat.le_refl _,by simpa only [like,AVal.elems] using ho⟩
 | .ro t sz _,b,c,f,h,_,ho=>by
   cases b <;> simp [skel] at h;subst h
   simp only [OwC] at ho
   exact ⟨f,fun _=>Nat.le_refl _,by simp only [like,AVal.elems,OwC];exact ⟨ro_weak ho.1,ho.2⟩⟩
 | .nils _,b,c,f,h,_,ho=>by cases b <;> simp [skel] at h
 | .nilp,b,c,f,h,_,ho=>by cases b <;> simp [skel] at h;exact ⟨f,fun _=>Nat.le_refl _,by simpa only [like] using ho⟩
 | .unk,b,c,f,h,_,ho=>by cases b <;> simp [skel] at h;exact ⟨f,fun _=>Nat.le_refl _,by simpa only [like] using ho⟩
 | .agg cs,b,c,f,h,_,ho=>by
   cases b with
   | agg ds=>
     simp only [OwC] at ho
     obtain ⟨f',h1,h2⟩:=likeL_ok 0 cs ds c f (by simpa [skel] using h) (by simpa using ho)
     exact ⟨f',h1,by simp only [like,OwC];exact h2⟩
   | _=>simp [skel] at h
 | .und,b,c,f,_,hc,ho=>by
   obtain ⟨v,rfl⟩:=hc rfl
   exact ⟨zf,fun _=>Nat.zero_le _,by simp only [like,OwC];exact ⟨⟨v,rfl,OwC.ones _ _ _ ho v (by simp)⟩,fun _=>rfl⟩⟩
 | .ptr K p off,b,c,f,h,_,ho=>by
   cases b <;> simp [skel] at h
   obtain ⟨rfl,rfl,rfl⟩:=h
   exact ⟨f,fun _=>Nat.le_refl _,by simpa only [like] using ho⟩
 | .rop _ _,b,c,f,h,_,_=>by cases b <;> simp [skel] at h
 | .ref _ _,b,c,f,h,_,_=>by cases b <;> simp [skel] at h
 | .tup _,b,c,f,h,_,_=>by cases b <;> simp [skel] at h
 | .clo g cs,b,c,f,h,_,ho=>by
   cases b <;> simp [skel] at h
   obtain ⟨rfl,h⟩:=h
   obtain rfl:=samePs_eq h
   exact ⟨f,fun _=>Nat.le_refl _,by simpa only [like] using ho⟩
 | .mp kc _,b,c,f,h,_,ho=>by
   cases b <;> simp [skel] at h
   subst h
   exact ⟨f,fun _=>Nat.le_refl _,by simpa only [like,AVal.ents] using ho⟩
theorem likeL_ok {E:Env2} : ∀(i:Nat) (cs ds:List AVal) (c:List Value) (f:Foot),skelL cs (ds.drop i)=true→OwL w fz E (ds.drop i) c f → ∃f':Foot,(∀i,f' i≤f i)∧OwL w fz E (likeL (.agg ds) i cs) c f'
 | i,[],ds,c,f,h,ho=>by
   cases hd:ds.drop i with
   | nil=>rw [hd] at ho;exact ⟨f,fun _=>Nat.le_refl _,by simpa only [likeL] using ho⟩
   | cons _ _=>rw [hd] at h;simp [skelL] at h
 | i,a::cs,ds,c,f,h,ho=>by
   cases hd:ds.drop i with
   | nil=>rw [hd] at h;simp [skelL] at h
   | cons b r=>
     obtain ⟨h1,h2⟩:=cell_at hd
     rw [hd] at h ho
     simp only [skelL,Bool.and_eq_true] at h
     simp only [OwL] at ho
     obtain ⟨v,rest,f1,f2,rfl,k1,k2,k3⟩:=ho
     obtain ⟨f1',m1,m2⟩:=like_ok a b [v] f1 h.1 (fun _=>⟨v,rfl⟩) k1
     obtain ⟨f2',n1,n2⟩:=likeL_ok (i+1) cs ds rest f2 (by rw [h2];exact h.2) (by rw [h2];exact k2)
     simp only [likeL,OwL,h1]
     exact ⟨fun b=>f1' b+f2' b,fun b=>by have:=m1 b;have:=n1 b;dsimp only;rw [k3];omega,v,rest,f1',f2',rfl,m2,n2,fun _=>rfl⟩
end
theorem aggQ_like {a b:AVal} (h:skel a b=true):aggQ b=false→aggQ (like a b)=false:=by
 intro hb
 cases a <;> cases b <;> simp [skel] at h <;> simp [aggQ] at hb <;> rfl
end
end Go.VK
namespace Go.VK
open AVal
section
variable {P:Program} {Φ:Ctx} {C:Oracle} {w w':World} {fz fz1 al:Nat→Prop} {a:Act} {O0:OM} {R:RM} {M:List Nat}
theorem RelO.putG {E:Env2} {O:OM} {F:Nat→Foot} {G f:Foot} (h:RelO w fz al E O R F (fun b=>G b+f b)) {d:Nat} {ob:VObj} {l:VK.Loc} (hob:OwO w fz E ob l f):RelO w fz al E (upO O d (some ob)) (upR R d l) (upF F d f) G:=by
 refine ⟨fun K o ho => ?_,fun K o ho b => ?_,fun K o J u hKJ ho hu b => ?_,fun K o ho b hb => ?_,fun b=>by have:=h.g1 b;omega,fun K o ho b => ?_,fun b hb=>h.go b (by omega),h.lt⟩
 · simp only [upO] at ho
   split at ho
   · rename_i hK;subst hK
     obtain rfl:=Option.some.inj ho
     simpa only [upR,upF,if_true] using hob
   · rename_i hK
     simp only [upR,upF,if_neg hK];exact h.obj K o ho
 · simp only [upO] at ho
   split at ho
   · rename_i hK;subst hK;simp only [upF,if_true];have:=h.g1 b;omega
   · rename_i hK;simp only [upF,if_neg hK];exact h.one K o ho b
 · simp only [upO] at ho hu
   split at ho
   · rename_i hK;subst hK
     rw [if_neg (Ne.symm hKJ)] at hu
     simp only [upF,if_true,if_neg (Ne.symm hKJ)]
     have:=h.gd J u hu b;omega
   · rename_i hK
     split at hu
     · rename_i hJ;subst hJ
       simp only [upF,if_true,if_neg hK]
       have:=h.gd K o ho b;omega
     · rename_i hJ
       simp only [upF,if_neg hK,if_neg hJ]
       exact h.dis K o J u hKJ ho hu b
 · simp only [upO] at ho
   split at ho
   · rename_i hK;subst hK
     simp only [upF,if_true] at hb
     exact h.go b (by omega)
   · rename_i hK
     simp only [upF,if_neg hK] at hb
     exact h.own K o ho b hb
 · simp only [upO] at ho
   split at ho
   · rename_i hK;subst hK
     simp only [upF,if_true];have:=h.g1 b;omega
   · rename_i hK;simp only [upF,if_neg hK];have:=h.gd K o ho b;omega
theorem upR_self (R:RM) (K:Nat):upR R K (R K)=R:=by
 funext J;simp only [upR];split
 · rename_i h;rw [h]
 · rfl
theorem whole_ok {E:Env2} {os:List VObj} : ∀(ks:List Nat) (i:Nat) (s sA:St) (O:OM) (F:Nat→Foot) (G:Foot) (fs:List Foot),backWhole s ks os i=(true,sA)→RelO w fz al E O R F (fun b=>G b+sumF fs b)→fs.length=ks.length→ks.Nodup →
 (∀(j K:Nat),ks[j]? = some K → ∃n f,os[i+j]? = some n∧fs[j]? = some f∧OwO w fz E n (R K) f)→(∀K∈ks,∀o,lk s.objs K=some o→(o.box=true ↔ ∃b q,R K=.mem b q)) →
 ∃(O':OM) (F':Nat→Foot),RelO w fz al E O' R F' G∧(∀K∈ks,O' K=lk sA.objs K ∧ ∃u,O' K=some u)∧(∀K,K∉ks→O' K=O K∧F' K=F K∧lk sA.objs K=lk s.objs K)∧(∀y,y∈sA.ki↔y∈s.ki ∨ ∃K∈ks,(K,[])=y)∧((∀K,K∈s.kr→K∈sA.kr) ∧ ∀K∈ks,K∈sA.kr ∨ ∃v,R K=.val v)∧sA.ka=s.ka∧sA.env=s.env
 | [],i,s,sA,O,F,G,fs,h,hr,hl,_,_,_=>by
   simp only [backWhole,Prod.mk.injEq,true_and] at h;subst h
   have:fs=[]:=List.length_eq_zero_iff.1 (by simpa using hl)
   subst this
   exact ⟨O,F,by simpa [sumF,zf] using hr,by simp,fun _ _=>⟨rfl,rfl,rfl⟩,by simp,by simp,rfl,rfl⟩
 | K::ks,i,s,sA,O,F,G,fs,h,hr,hl,hnd,hos,hbox=>by
   simp only [backWhole,St.obj] at h
   cases ho:lk s.objs K with
   | none=>rw [ho] at h;simp at h
   | some o=>
     rw [ho] at h
     simp only at h
     cases hb:backWhole { (s.killInto K).setObj K { o with c:=like o.c (os.getD i default).c } with kr:=bif o.box then K::s.kr else s.kr } ks os (i+1) with
     | mk b s'=>
       rw [hb] at h
       simp only [Prod.mk.injEq,Bool.and_eq_true] at h
       obtain ⟨⟨hnu,hsk,rfl⟩,rfl⟩:=h
       obtain ⟨n,f,k1,k2,k3⟩:=hos 0 K rfl
       have hn:os.getD i default=n:=by
        have:os[i]? = some n:=by simpa using k1
        simp [List.getD_eq_getElem?_getD,this]
       rw [hn] at hsk hb
       obtain ⟨f0,fs',rfl⟩ : ∃f0 fs',fs=f0::fs':=by
        cases fs with
        | nil=>simp at k2
        | cons f0 fs'=>exact ⟨f0,fs',rfl⟩
       simp only [List.getElem?_cons_zero,Option.some.injEq] at k2
       subst k2
       have hund:o.c=.und→False:=fun he=>by rw [he] at hnu;simp [notUnd] at hnu
       have key : ∃f':Foot,(∀b,f' b≤f0 b)∧OwO w fz E { o with c:=like o.c n.c } (R K) f':=by
        unfold OwO at k3
        by_cases hnb:n.box=true
        · rw [if_pos hnb] at k3
          obtain ⟨b,cs,g,hl,hB,hc,hg⟩:=k3
          have hob:o.box=true:=(hbox K (by simp) o ho).2 ⟨_,_,hl⟩
          obtain ⟨g',m1,m2⟩:=like_ok o.c n.c _ g hsk (fun he=>(hund he).elim) hc
          refine ⟨fun i=>g' i+if i=b then 1 else 0,fun i=>by dsimp only;rw [hg];have:=m1 i;omega,?_⟩
          unfold OwO;rw [if_pos hob]
          exact ⟨b,cs,g',hl,hB,m2,fun _=>rfl⟩
        · rw [if_neg hnb] at k3
          obtain ⟨v,hl,hc,hag⟩:=k3
          have hob : ¬o.box=true:=fun he=>by obtain ⟨b,q,hm⟩:=(hbox K (by simp) o ho).1 he;rw [hl] at hm;simp at hm
          obtain ⟨g',m1,m2⟩:=like_ok o.c n.c _ f0 hsk (fun he=>(hund he).elim) hc
          refine ⟨g',m1,?_⟩
          unfold OwO;rw [if_neg hob]
          exact ⟨v,hl,m2,aggQ_like hsk hag⟩
       obtain ⟨f',hf',hob⟩:=key
       have hr1:RelO w fz al E O R F (fun b=>(G b+sumF fs' b)+f' b):=hr.lose fun b=>by have:=hf' b;simp only [sumF];omega
       have hr2:=hr1.putG (d:=K) hob
       rw [upR_self] at hr2
       obtain ⟨hK,hnd'⟩:=List.nodup_cons.1 hnd
       have hne : ∀J∈ks,J≠K:=fun J hJ he=>hK (he▸hJ)
       obtain ⟨O',F',r1,r2,r3,r4,r5,r6,r7⟩:=whole_ok ks (i+1) _ s' _ _ G fs' hb hr2 (by simpa using hl) hnd' (fun j J hJ=>by
        have:=hos (j+1) J (by simpa using hJ)
        have e:i+1+j=i+(j+1):=by omega
        rw [e];simpa using this) (fun J hJ u hu=>by
        simp only [St.setObj,St.killInto,lk_ins,if_neg (hne J hJ)] at hu
        exact hbox J (by simp [hJ]) u hu)
       refine ⟨O',F',r1,fun J hJ => ?_,fun J hJ => ?_,fun J => ?_,?_,r6,r7⟩
       · rcases List.mem_cons.1 hJ with rfl|hJ
         · obtain ⟨q1,_,q3⟩:=r3 J hK
           rw [q1,q3]
           simp only [upO,if_true,St.setObj,St.killInto,lk_ins]
           exact ⟨trivial,_,rfl⟩
         · exact r2 J hJ
       · simp only [List.mem_cons,not_or] at hJ
         obtain ⟨q1,q2,q3⟩:=r3 J hJ.2
         rw [q1,q2,q3]
         simp only [upO,upF,if_neg hJ.1,St.setObj,St.killInto,lk_ins]
         exact ⟨trivial,trivial,trivial⟩
       · rw [r4];simp only [St.setObj,St.killInto,List.mem_cons,exists_eq_or_imp]
         constructor
         · rintro ((h|h)|h)
           · exact .inr (.inl h.symm)
           · exact .inl h
           · exact .inr (.inr h)
         · rintro (h|h|h)
           · exact .inl (.inr h)
           · exact .inl (.inl h.symm)
           · exact .inr h
       · obtain ⟨r5a,r5b⟩:=r5
         refine ⟨fun J hJ=>r5a J ?_,fun J hJ => ?_⟩
         · show J∈(bif o.box then K::s.kr else s.kr)
           cases o.box with
           | true=>exact List.mem_cons_of_mem _ hJ
           | false=>exact hJ
         · rcases List.mem_cons.1 hJ with rfl|hJ
           · cases hbx:o.box with
             | true=>exact .inl (r5a J (by show J∈(bif o.box then J::s.kr else s.kr);rw [hbx];exact List.mem_cons_self ..))
             | false=>
               right
               cases hRJ:R J with
               | val v=>exact ⟨v,rfl⟩
               | mem b q=>have:=(hbox J (by simp) o ho).2 ⟨b,q,hRJ⟩;rw [hbx] at this;simp at this
           · exact r5b J hJ
theorem parts_ok {E:Env2} {os:List VObj} : ∀(l:List (Nat×List Nat)) (i:Nat) (olds:List VObj) (s sB:St) (O:OM) (F:Nat→Foot) (G:Foot) (fs:List Foot) (vs:List Value),backPart s l olds os i=(true,sB)→RelO w fz al E O R F (fun b=>G b+sumF fs b)→fs.length=l.length →
 (∀(j K:Nat) (q:List Nat),l[j]? = some (K,q) → ∃n f v old o,os[i+j]? = some n∧fs[j]? = some f∧vs[j]? = some v∧olds[j]? = some old∧isOwnQ old.c=true∧OwO w fz E n (.val v) f∧O K=some o∧lk s.objs K=some o∧(o.c.okp q=true → ∃lo,walk w o.c (R K) q=some lo∧hdOf w lo=some v)) →
 (∀(i j K:Nat) (q r:List Nat),i≠j→l[i]? = some (K,q)→l[j]? = some (K,r)→Off q r) →
 ∃(O':OM) (F':Nat→Foot),RelO w fz al E O' R F' G∧(∀x∈l,O' x.1=lk sB.objs x.1 ∧ ∃u,O' x.1=some u)∧(∀K,(∀x∈l,K≠x.1)→O' K=O K∧F' K=F K∧lk sB.objs K=lk s.objs K)∧(∀y,y∈sB.ki↔y∈s.ki ∨ ∃x∈l,(x.1,[])=y)∧sB.kr=s.kr∧sB.ka=s.ka∧sB.env=s.env
 | [],i,olds,s,sB,O,F,G,fs,vs,h,hr,hl,_,_=>by
   simp only [backPart,Prod.mk.injEq,true_and] at h;subst h
   have:fs=[]:=List.length_eq_zero_iff.1 (by simpa using hl)
   subst this
   exact ⟨O,F,by simpa [sumF,zf] using hr,by simp,fun _ _=>⟨rfl,rfl,rfl⟩,by simp,rfl,rfl,rfl⟩
 | (K,q)::l,i,olds,s,sB,O,F,G,fs,vs,h,hr,hl,hos,hoff=>by
   obtain ⟨n,f,v,old,o,k1,k2,k3,k4,k5,k6,k7,k8,k9⟩:=hos 0 K q rfl
   obtain ⟨f0,fs',rfl⟩ : ∃f0 fs',fs=f0::fs':=by
    cases fs with
    | nil=>simp at k2
    | cons f0 fs'=>exact ⟨f0,fs',rfl⟩
   obtain ⟨v0,vs',rfl⟩ : ∃v0 vs',vs=v0::vs':=by
    cases vs with
    | nil=>simp at k3
    | cons f0 fs'=>exact ⟨f0,fs',rfl⟩
   obtain ⟨old0,olds',rfl⟩ : ∃a b,olds=a::b:=by
    cases olds with
    | nil=>simp at k4
    | cons f0 fs'=>exact ⟨f0,fs',rfl⟩
   simp only [List.getElem?_cons_zero,Option.some.injEq] at k2 k3 k4
   subst k2;subst k3;subst k4
   simp only [backPart,St.obj,k8] at h
   cases hb:backPart ((s.killInto K).setObj K { o with c:=o.c.put q (backPart.likeOwn old0.c (os.getD i default).c) }) l olds' os (i+1) with
   | mk b s'=>
     rw [hb] at h
     simp only [Prod.mk.injEq,Bool.and_eq_true,Bool.not_eq_true'] at h
     obtain ⟨⟨hok,hag,hsk,rfl⟩,rfl⟩:=h
     have hn:os.getD i default=n:=by
      have:os[i]? = some n:=by simpa using k1
      simp [List.getD_eq_getElem?_getD,this]
     rw [hn] at hsk hb
     have hown:(isOwnQ n.c=true∨n.c=.und)∧backPart.likeOwn old0.c n.c=n.c:=by
      by_cases hun:n.c=.und
      · exact ⟨.inr hun,by rw [hun];cases old0.c <;> rfl⟩
      refine (fun h:isOwnQ n.c=true∧backPart.likeOwn old0.c n.c=n.c=>⟨.inl h.1,h.2⟩) ?_
      cases ho:old0.c <;> rw [ho] at k5 <;> simp [isOwnQ] at k5
      case own sz ys=>
       rw [ho] at hsk
       cases hc:n.c <;> rw [hc] at hsk hun <;> simp [backPart.skelOwn] at hsk hun
       subst hsk
       exact ⟨rfl,by simp [backPart.likeOwn,AVal.elems]⟩
      case mp kc ys=>
       rw [ho] at hsk
       cases hc:n.c <;> rw [hc] at hsk hun <;> simp [backPart.skelOwn] at hsk hun
       subst hsk
       exact ⟨rfl,by simp [backPart.likeOwn,AVal.ents]⟩
     obtain ⟨hc,hlk⟩:=hown
     rw [hlk] at hb
     have hoc:OwC w fz NoE n.c [v0] f0:=by
      unfold OwO at k6
      by_cases hnb:n.box=true
      · rw [if_pos hnb] at k6
        obtain ⟨_,_,_,hl,_⟩:=k6;simp at hl
      · rw [if_neg hnb] at k6
        obtain ⟨v',hl,hcc,_⟩:=k6
        simp only [VK.Loc.val.injEq] at hl
        subst hl
        rcases hc with hc|hc
        · exact lent_E hc hcc
        · rw [hc] at hcc ⊢;simpa only [OwC] using hcc
     obtain ⟨lo,hw,hh⟩:=k9 hok
     have hr1:RelO w fz al E O R F (fun b=>(G b+sumF fs' b)+f0 b):=hr.lose fun b=>by simp only [sumF];omega
     obtain ⟨F1,r1,r2,r3⟩:=hr1.fill k7 hok hag hw hh hoc (by rcases hc with hc|hc;exact isOwnQ_agg hc;rw [hc];rfl)
     obtain ⟨O',F',t1,t2,t3,t4,t5,t6,t7⟩:=parts_ok l (i+1) olds' _ s' _ F1 G fs' vs' hb r1 (by simpa using hl) (fun j J r hJ=>by
      obtain ⟨n',f',v',old',o',q1,q2,q3,q4,q5,q6,q7,q8,q9⟩:=hos (j+1) J r (by simpa using hJ)
      have e:i+1+j=i+(j+1):=by omega
      by_cases hJK:J=K
      · subst hJK
        rw [k7] at q7;obtain rfl:=Option.some.inj q7
        have hof:=hoff 0 (j+1) J q r (by omega) rfl (by simpa using hJ)
        obtain ⟨p1,p2,p3⟩:=put_off (w:=w) q r o.c n.c hof
        exact ⟨n',f',v',old',{ o with c:=o.c.put q n.c },by rw [e];exact q1,by simpa using q2,by simpa using q3,by simpa using q4,q5,q6,by simp only [upO,if_true],by simp only [St.setObj,St.killInto,lk_ins,if_true],fun hok'=>by
         obtain ⟨lo',a1,a2⟩:=q9 (by rw [←p1];exact hok')
         exact ⟨lo',by rw [p2];exact a1,a2⟩⟩
      · exact ⟨n',f',v',old',o',by rw [e];exact q1,by simpa using q2,by simpa using q3,by simpa using q4,q5,q6,by simp only [upO,if_neg hJK];exact q7,by simp only [St.setObj,St.killInto,lk_ins,if_neg hJK];exact q8,q9⟩) (fun a b J x y hab ha hbb=>hoff (a+1) (b+1) J x y (by omega) (by simpa using ha) (by simpa using hbb))
     have hcase : ∀J,(∀x∈l,J≠x.1)→O' J=(upO O K (some { o with c:=o.c.put q n.c })) J∧lk s'.objs J=lk ((s.killInto K).setObj K { o with c:=o.c.put q n.c }).objs J:=fun J hJ=>⟨(t3 J hJ).1,(t3 J hJ).2.2⟩
     refine ⟨O',F',t1,fun x hx => ?_,fun J hJ => ?_,fun J => ?_,t5,t6,t7⟩
     · by_cases hxl : ∃y∈l,x.1=y.1
       · obtain ⟨y,hy,he⟩:=hxl
         rw [he];exact t2 y hy
       · rcases List.mem_cons.1 hx with rfl|hx
         · obtain ⟨q1,q2⟩:=hcase K (fun y hy he=>hxl ⟨y,hy,he⟩)
           rw [q1,q2]
           simp only [upO,if_true,St.setObj,St.killInto,lk_ins]
           exact ⟨trivial,_,rfl⟩
         · exact absurd ⟨x,hx,rfl⟩ hxl
     · have hJK:J≠K:=hJ (K,q) (by simp)
       obtain ⟨q1,q2,q3⟩:=t3 J (fun x hx=>hJ x (by simp [hx]))
       rw [q1,q2,q3,r2 J hJK]
       simp only [upO,if_neg hJK,St.setObj,St.killInto,lk_ins]
       exact ⟨trivial,trivial,trivial⟩
     · rw [t4];simp only [St.setObj,St.killInto,List.mem_cons,exists_eq_or_imp]
       constructor
       · rintro ((h|h)|h)
         · exact .inr (.inl h.symm)
         · exact .inl h
         · exact .inr (.inr h)
       · rintro (h|h|h)
         · exact .inl (.inr h)
         · exact .inl (.inl h.symm)
         · exact .inr h
end
end Go.VK
namespace Go.VK
open AVal
section
variable {P:Program} {Φ:Ctx} {C:Oracle} {w w':World} {fz fz1 al:Nat→Prop} {a:Act} {O0:OM} {R:RM} {M:List Nat}
def flatV:AVal→Bool
 | .bool _=>true|.int _ _=>true|.str _=>true|.ro _ _ _=>true|.own _ _=>true
 | _=>false
theorem res_cell {E:Env2} {frz:Bool} {c:CT} {v:AVal} {val:Value} {f:Foot} (hp:plainCT c=true) (hs:(bif frz then c.shro v else c.shOwn v)=true) (h:OwC w fz E v [val] f):OwC w fz E (bif frz then c.co v else c.cow v) [val] f∧flatV (bif frz then c.co v else c.cow v)=true:=by
 cases frz with
 | true=>
   simp only [cond_true] at hs ⊢
   cases c with
   | bool=>cases v <;> simp [CT.shro,CT.shape] at hs;exact ⟨by simpa only [CT.co,AVal.toBool] using h,rfl⟩
   | int k=>cases v <;> simp [CT.shro,CT.shape] at hs;subst hs;exact ⟨by simpa only [CT.co,AVal.toInt] using h,rfl⟩
   | str=>cases v <;> simp [CT.shro,CT.shape] at hs;exact ⟨by simpa only [CT.co,AVal.toStr] using h,rfl⟩
   | slice sz=>cases v <;> simp [CT.shro] at hs;subst hs;exact ⟨by simp only [OwC] at h;simp only [CT.co,AVal.elems,OwC];exact ⟨ro_weak h.1,h.2⟩,rfl⟩
   | ptr=>simp [plainCT] at hp
   | oth=>simp [plainCT] at hp
 | false=>
   simp only [cond_false] at hs ⊢
   cases c with
   | bool=>cases v <;> simp [CT.shOwn,CT.shape] at hs;exact ⟨by simpa only [CT.cow,CT.co,AVal.toBool] using h,rfl⟩
   | int k=>cases v <;> simp [CT.shOwn,CT.shape] at hs;subst hs;exact ⟨by simpa only [CT.cow,CT.co,AVal.toInt] using h,rfl⟩
   | str=>cases v <;> simp [CT.shOwn,CT.shape] at hs;exact ⟨by simpa only [CT.cow,CT.co,AVal.toStr] using h,rfl⟩
   | slice sz=>cases v <;> simp [CT.shOwn] at hs;subst hs;exact ⟨by simpa only [CT.cow,AVal.elems] using h,rfl⟩
   | ptr=>simp [plainCT] at hp
   | oth=>simp [plainCT] at hp
theorem res_cells {E:Env2} {frz:Bool} : ∀(cs:List CT) (i:Nat) (vs:List AVal) (ws:List Value) (f:Foot),cs.all plainCT=true→zipS (bif frz then CT.shro else CT.shOwn) cs (vs.drop i)=true→OwL w fz E (vs.drop i) ws f→OwL w fz E (mapFrom (bif frz then CT.co else CT.cow) (.agg vs) i cs) ws f∧(mapFrom (bif frz then CT.co else CT.cow) (.agg vs) i cs).all flatV=true
 | [],i,vs,ws,f,_,hz,h=>by
   cases hd:vs.drop i with
   | nil=>rw [hd] at h;exact ⟨by simpa only [mapFrom] using h,rfl⟩
   | cons _ _=>rw [hd] at hz;simp [zipS] at hz
 | c::cs,i,vs,ws,f,hp,hz,h=>by
   cases hd:vs.drop i with
   | nil=>rw [hd] at hz;simp [zipS] at hz
   | cons v r=>
     obtain ⟨h1,h2⟩:=cell_at hd
     rw [hd] at hz h
     simp only [zipS,Bool.and_eq_true] at hz
     simp only [List.all_cons,Bool.and_eq_true] at hp
     simp only [OwL] at h
     obtain ⟨u,rest,f1,f2,rfl,k1,k2,k3⟩:=h
     have e1:(bif frz then CT.shro else CT.shOwn) c v=(bif frz then c.shro v else c.shOwn v):=by cases frz <;> rfl
     have e2:(bif frz then CT.co else CT.cow) c v=(bif frz then c.co v else c.cow v):=by cases frz <;> rfl
     rw [e1] at hz
     obtain ⟨m1,m2⟩:=res_cell hp.1 hz.1 k1
     obtain ⟨n1,n2⟩:=res_cells (E:=E) (frz:=frz) cs (i+1) vs rest f2 hp.2 (by rw [h2];exact hz.2) (by rw [h2];exact k2)
     simp only [mapFrom,h1,e2,OwL,List.all_cons,m2,n2,Bool.and_self,and_true]
     exact ⟨u,rest,f1,f2,rfl,m1,n1,k3⟩
def flatR:AVal→Bool
 | .agg cs=>cs.all flatV
 | .und=>true
 | .tup cs=>bxQ (.tup cs)
 | v=>flatV v
theorem resv_ok {E:Env2} {frz:Bool} {T:TI} {v u:AVal} {val:Value} {g:Foot} (h:resv frz T v=some (true,u)) (hr:HandR w fz E v val g):HandR w fz E u val g∧flatR u=true:=by
 unfold resv at h
 simp only [Bool.cond_eq_ite] at h
 split at h
 · rename_i hq
   simp only [Option.some.injEq,Prod.mk.injEq,true_and] at h
   subst h
   simp only [Bool.and_eq_true] at hq
   have hq:=hq.2
   unfold undQ at hq
   split at hq
   · exact ⟨hr,rfl⟩
   · simp at hq
 split at h
 · rename_i hq
   simp only [Option.some.injEq,Prod.mk.injEq,true_and] at h
   subst h
   simp only [Bool.and_eq_true] at hq
   have hq:=hq.2
   refine ⟨hr,?_⟩
   unfold bxQ at hq
   split at hq
   · exact hq
   · simp at hq
 by_cases hnt : ∃cs,v=.tup cs
 · obtain ⟨cs,rfl⟩:=hnt
   exfalso
   split at h
   · split at h
     · simp at h
     · rename_i c _ _
       cases frz <;> cases c <;> simp [CT.shro,CT.shOwn,CT.shape] at h
     · simp at h
   · simp at h
 have hv:HandV w fz E v val g:=hr.toV fun cs he=>hnt ⟨cs,he⟩
 refine (show HandV w fz E u val g∧flatR u=true→HandR w fz E u val g∧flatR u=true from fun q=>⟨q.1.toR,q.2⟩) ?_
 split at h
 · rename_i hp
   split at h
   · rename_i cs hag
     simp only [Option.some.injEq,Prod.mk.injEq] at h
     obtain ⟨hz,rfl⟩:=h
     cases v with
     | agg vs=>
       obtain ⟨ws,rfl,hl⟩:=hv
       have e:(if frz=true then CT.shro else CT.shOwn)=(bif frz then CT.shro else CT.shOwn):=by cases frz <;> rfl
       have e2:(if frz=true then CT.co else CT.cow)=(bif frz then CT.co else CT.cow):=by cases frz <;> rfl
       rw [e] at hz
       rw [e2]
       obtain ⟨m1,m2⟩:=res_cells (E:=E) (frz:=frz) T.cts 0 vs ws.toList g hp (by simpa using hz) (by simpa using hl)
       exact ⟨⟨ws,rfl,m1⟩,m2⟩
     | _=>simp at hz
   · rename_i c hag hc
     simp only [Option.some.injEq,Prod.mk.injEq] at h
     obtain ⟨hz,rfl⟩:=h
     rw [hc] at hp
     simp only [List.all_cons,List.all_nil,Bool.and_true] at hp
     have e:(if frz=true then c.shro v else c.shOwn v)=(bif frz then c.shro v else c.shOwn v):=by cases frz <;> rfl
     have e2:(if frz=true then c.co v else c.cow v)=(bif frz then c.co v else c.cow v):=by cases frz <;> rfl
     rw [e] at hz
     rw [e2]
     have hv2:OwC w fz E v [val] g:=by
      cases v with
      | agg vs=>
        exfalso
        cases frz <;> cases c <;> simp [CT.shro,CT.shOwn,CT.shape] at hz
      | _=>exact hv
     obtain ⟨m1,m2⟩:=res_cell hp hz hv2
     have hfl : ∀x:AVal,flatV x=true→OwC w fz E x [val] g→HandV w fz E x val g∧flatR x=true:=by
      intro x hx ho
      cases x <;> simp [flatV] at hx <;> exact ⟨ho,rfl⟩
     exact hfl _ m2 m1
   · simp at h
 · simp at h
theorem resvs_ok {E:Env2} {frz:Bool} : ∀(ts:List Nat) (i:Nat) (rs us:List AVal) (rvs:List Value) (g:Foot),resvs Φ frz i ts rs=some (true,us)→ts.length=(rs.drop i).length→HandRL w fz E (rs.drop i) rvs g→HandRL w fz E us rvs g∧us.all flatR=true
 | [],i,rs,us,rvs,g,h,hl,hh=>by
   simp only [resvs,Option.some.injEq,Prod.mk.injEq,true_and] at h;subst h
   have:rs.drop i=[]:=List.length_eq_zero_iff.1 (by simpa using hl.symm)
   rw [this] at hh
   exact ⟨hh,rfl⟩
 | t::ts,i,rs,us,rvs,g,h,hl,hh=>by
   simp only [resvs] at h
   cases hT:Φ.ti t with
   | none=>rw [hT] at h;simp at h
   | some T=>
     rw [hT] at h
     simp only at h
     cases hd:rs.drop i with
     | nil=>rw [hd] at hl;simp at hl
     | cons v r=>
       obtain ⟨h1,h2⟩:=cell_at hd
       simp only [AVal.cell,AVal.cells] at h1
       rw [h1] at h
       cases hr:resv frz T v with
       | none=>rw [hr] at h;simp at h
       | some x=>
         obtain ⟨b,u⟩:=x
         cases hs:resvs Φ frz (i+1) ts rs with
         | none=>rw [hr,hs] at h;simp at h
         | some y=>
           obtain ⟨d,us'⟩:=y
           rw [hr,hs] at h
           simp only [Option.some.injEq,Prod.mk.injEq,Bool.and_eq_true] at h
           obtain ⟨⟨rfl,rfl⟩,rfl⟩:=h
           rw [hd] at hh hl
           simp only [HandRL] at hh
           obtain ⟨val,rest,g1,g2,rfl,k1,k2,k3⟩:=hh
           obtain ⟨m1,m2⟩:=resv_ok hr k1
           obtain ⟨n1,n2⟩:=resvs_ok (E:=E) ts (i+1) rs us' rest g2 hs (by rw [h2];simpa using hl) (by rw [h2];exact k2)
           exact ⟨⟨val,rest,g1,g2,rfl,m1,n1,k3⟩,by simp [m2,n2]⟩
theorem flat_ev {O:OM} {x:AVal} {val:Value} {f:Foot} (hx:flatV x=true) (hn : ∀sz xs,x≠.own sz xs) (h:OwC w fz NoE x [val] f):EvV w fz O R x val:=by
 cases x <;> simp [flatV] at hx
 case own=>exact absurd rfl (hn _ _)
 case ro=>simp only [OwC] at h;simp only [EvV];exact h.1
 all_goals
  simp only [OwC] at h
  simp only [EvV]
  simpa using h.1
theorem flat_foot {x:AVal} {val:Value} {f:Foot} (hx:flatV x=true) (hn : ∀sz xs,x≠.own sz xs) (h:OwC w fz NoE x [val] f) : ∀b,f b=0:=by
 cases x <;> simp [flatV] at hx
 case own=>exact absurd rfl (hn _ _)
 all_goals
  simp only [OwC] at h
  exact h.2
theorem own_obj {E:Env2} {sz:Nat} {xs:List AVal} {val:Value} {f:Foot} (h:OwC w fz NoE (.own sz xs) [val] f):OwO w fz E { box:=false,c:=.own sz xs } (.val val) f:=by
 unfold OwO;rw [if_neg (by simp)]
 exact ⟨val,rfl,pure_E _ _ _ rfl h,rfl⟩
structure Held (w:World) (fz al:Nat→Prop) (E:Env2) (s s':St) (O O':OM) (R R':RM) (G:Foot) (lo hi:Nat):Prop where
 rel : ∃F',RelO w fz al E O' R' F' G
 out : ∀K,(K<lo∨hi≤K)→O' K=O K∧R' K=R K∧lk s'.objs K=lk s.objs K
 ins : ∀K,(O' K=O K∧R' K=R K∧lk s'.objs K=lk s.objs K)∨(O' K=lk s'.objs K∧K∈s'.ka)
 ka : ∀K∈s.ka,K∈s'.ka
 rest:s'.ki=s.ki∧s'.kr=s.kr∧s'.env=s.env
theorem Held.same {E:Env2} {s:St} {O:OM} {F:Nat→Foot} {G:Foot} (h:RelO w fz al E O R F G) (lo hi:Nat):Held w fz al E s s O O R R G lo hi:=
 ⟨⟨F,h⟩,fun _ _=>⟨rfl,rfl,rfl⟩,fun _=>.inl ⟨rfl,rfl,rfl⟩,fun _ h=>h,rfl,rfl,rfl⟩
theorem Held.widen {E:Env2} {s s':St} {O O':OM} {R':RM} {G:Foot} {lo hi l u:Nat} (h:Held w fz al E s s' O O' R R' G lo hi) (h1:l≤lo) (h2:hi≤u):Held w fz al E s s' O O' R R' G l u:=
 ⟨h.rel,fun K hK=>h.out K (by omega),h.ins,h.ka,h.rest⟩
theorem Held.seq {E:Env2} {s s1 s2:St} {O O1 O2:OM} {R1 R2:RM} {G G1:Foot} {lo hi lo1 hi1:Nat} (h:Held w fz al E s s1 O O1 R R1 G lo hi) (k:Held w fz al E s1 s2 O1 O2 R1 R2 G1 lo1 hi1) {l u:Nat} (h1:l≤lo) (h2:l≤lo1) (h3:hi≤u) (h4:hi1≤u):Held w fz al E s s2 O O2 R R2 G1 l u:=by
 refine ⟨k.rel,fun K hK => ?_,fun K => ?_,fun K hK=>k.ka K (h.ka K hK),k.rest.1.trans h.rest.1,k.rest.2.1.trans h.rest.2.1,k.rest.2.2.trans h.rest.2.2⟩
 · obtain ⟨a1,a2,a3⟩:=k.out K (by omega)
   obtain ⟨b1,b2,b3⟩:=h.out K (by omega)
   exact ⟨a1.trans b1,a2.trans b2,a3.trans b3⟩
 · rcases k.ins K with ⟨a1,a2,a3⟩|⟨a1,a2⟩
   · rcases h.ins K with ⟨b1,b2,b3⟩|⟨b1,b2⟩
     · exact .inl ⟨a1.trans b1,a2.trans b2,a3.trans b3⟩
     · exact .inr ⟨by rw [a1,b1,a3],k.ka K b2⟩
   · exact .inr ⟨a1,a2⟩
theorem hold_one {E:Env2} {s:St} {O:OM} {F:Nat→Foot} {G f:Foot} {K sz:Nat} {xs:List AVal} {val:Value} (h:RelO w fz al E O R F (fun b=>G b+f b)) (hx:OwC w fz NoE (.own sz xs) [val] f) :
 Held w fz al E s ((s.drop K).setObj K { box:=false,c:=.own sz xs }) O (upO O K (some { box:=false,c:=.own sz xs })) R (upR R K (.val val)) G K (K+1):=by
 refine ⟨⟨_,h.putG (own_obj hx)⟩,fun J hJ => ?_,fun J => ?_,fun J hJ=>by simp only [St.setObj,St.drop];exact List.mem_cons_of_mem _ hJ,rfl,rfl,rfl⟩
 · have hn:J≠K:=by omega
   exact ⟨by simp only [upO,if_neg hn],by simp only [upR,if_neg hn],by simp only [St.setObj,St.drop,lk_ins,lk_del,if_neg hn]⟩
 · by_cases hn:J=K
   · subst hn
     exact .inr ⟨by simp only [upO,if_true,St.setObj,St.drop,lk_ins],by simp only [St.setObj,St.drop];exact List.mem_cons_self ..⟩
   · exact .inl ⟨by simp only [upO,if_neg hn],by simp only [upR,if_neg hn],by simp only [St.setObj,St.drop,lk_ins,lk_del,if_neg hn]⟩
theorem hold_box {E:Env2} {s:St} {O:OM} {F:Nat→Foot} {G f:Foot} {K:Nat} {c:AVal} {val:Value} (h:RelO w fz al E O R F (fun b=>G b+f b)) (hx:HandR w fz NoE (.tup [c]) val f) :
 ∃l,Held w fz al E s ((s.drop K).setObj K { box:=true,c:=c }) O (upO O K (some { box:=true,c:=c })) R (upR R K l) G K (K+1) ∧ ∀O' R',O' K=some { box:=true,c:=c }→R' K=l→EvV w fz O' R' (.ptr K [] none) val:=by
 obtain ⟨b,ks,f',rfl,hB,hc,hf⟩:=hx
 have hO:OwO w fz E { box:=true,c:=c } (.mem b 0) f:=by
  unfold OwO;rw [if_pos rfl]
  exact ⟨b,ks,f',rfl,hB,OwC.mono (fun b hb=>⟨hb,rfl⟩) _ _ _ (fun _ _ _ h=>h.elim) _ _ (fun _ _=>rfl) hc,hf⟩
 refine ⟨.mem b 0,⟨⟨_,h.putG hO⟩,fun J hJ => ?_,fun J => ?_,fun J hJ=>by simp only [St.setObj,St.drop];exact List.mem_cons_of_mem _ hJ,rfl,rfl,rfl⟩,fun O' R' h1 h2 => ?_⟩
 · have hn:J≠K:=by omega
   exact ⟨by simp only [upO,if_neg hn],by simp only [upR,if_neg hn],by simp only [St.setObj,St.drop,lk_ins,lk_del,if_neg hn]⟩
 · by_cases hn:J=K
   · subst hn
     exact .inr ⟨by simp only [upO,if_true,St.setObj,St.drop,lk_ins],by simp only [St.setObj,St.drop];exact List.mem_cons_self ..⟩
   · exact .inl ⟨by simp only [upO,if_neg hn],by simp only [upR,if_neg hn],by simp only [St.setObj,St.drop,lk_ins,lk_del,if_neg hn]⟩
 · simp only [EvV,EvR,EvP]
   exact ⟨_,b,0,h1,by rw [walk_nil,h2],rfl⟩
theorem held_ref {O':OM} {R':RM} {K sz:Nat} {xs:List AVal} {val:Value} {f:Foot} (hx:OwC w fz NoE (.own sz xs) [val] f) (h1:O' K=some { box:=false,c:=.own sz xs }) (h2:R' K=.val val):EvV w fz O' R' (.ref K []) val:=by
 simp only [EvV,EvR,EvP]
 exact ⟨_,.val val,h1,by rw [walk_nil,h2],rfl,OwC.ones _ _ _ hx val (by simp)⟩
theorem holdCells_ok {E:Env2} {d i:Nat} : ∀(cs:List AVal) (c:Nat) (s:St) (O:OM) (R:RM) (F:Nat→Foot) (G f:Foot) (ws:List Value),cs.all flatV=true→RelO w fz al E O R F (fun b=>G b+f b)→OwL w fz NoE cs ws f →
 ∃O' R',Held w fz al E s (holdCells s d i c cs).1 O O' R R' G (compKey d i c) (compKey d i (c+cs.length))∧EvL w fz O' R' (holdCells s d i c cs).2 ws
 | [],c,s,O,R,F,G,f,ws,_,h,hl=>by
   simp only [OwL] at hl
   obtain ⟨rfl,hf⟩:=hl
   refine ⟨O,R,?_,by simp [holdCells,EvL]⟩
   simp only [holdCells]
   exact Held.same (G:=G) (h.lose (G':=G) fun b=>by omega) _ _
 | x::cs,c,s,O,R,F,G,f,ws,hfl,h,hl=>by
   simp only [List.all_cons,Bool.and_eq_true] at hfl
   simp only [OwL] at hl
   obtain ⟨val,rest,f1,f2,rfl,h1,h2,h3⟩:=hl
   have hr:RelO w fz al E O R F (fun b=>(G b+f2 b)+f1 b):=h.lose fun b=>by rw [h3];omega
   by_cases hx : ∃sz xs,x=.own sz xs
   · obtain ⟨sz,xs,rfl⟩:=hx
     have k1:=hold_one (s:=s) (K:=compKey d i c) hr h1
     obtain ⟨F1,hF1⟩:=k1.rel
     obtain ⟨O',R',k2,k3⟩:=holdCells_ok cs (c+1) ((s.drop (compKey d i c)).setObj (compKey d i c) { box:=false,c:=.own sz xs }) _ _ F1 G f2 rest hfl.2 hF1 h2
     have e:c+(AVal.own sz xs::cs).length=c+1+cs.length:=by simp;omega
     rw [e]
     simp only [holdCells]
     refine ⟨O',R',k1.seq k2 (Nat.le_refl _) (by simp [compKey]) (by simp only [compKey];omega) (Nat.le_refl _),?_⟩
     simp only [EvL]
     obtain ⟨q1,q2,_⟩:=k2.out (compKey d i c) (.inl (by simp only [compKey];omega))
     exact ⟨val,rest,rfl,held_ref h1 (by rw [q1];simp [upO]) (by rw [q2];simp [upR]),k3⟩
   · have hn : ∀sz xs,x≠.own sz xs:=fun sz xs he=>hx ⟨sz,xs,he⟩
     have hz:=flat_foot hfl.1 hn h1
     obtain ⟨O',R',k2,k3⟩:=holdCells_ok cs (c+1) s O R F G f2 rest hfl.2 (h.lose fun b=>by rw [h3];omega) h2
     have e1:holdCells s d i c (x::cs)=((holdCells s d i (c+1) cs).1,x::(holdCells s d i (c+1) cs).2):=by
      cases x <;> simp only [holdCells] <;> exact absurd rfl (hn _ _)
     have e:c+(x::cs).length=c+1+cs.length:=by simp;omega
     rw [e1,e]
     refine ⟨O',R',k2.widen (by simp only [compKey];omega) (Nat.le_refl _),?_⟩
     simp only [EvL]
     exact ⟨val,rest,rfl,flat_ev hfl.1 hn h1,k3⟩
end
end Go.VK
namespace Go.VK
open AVal
section
variable {P:Program} {Φ:Ctx} {C:Oracle} {w w':World} {fz fz1 al:Nat→Prop} {a:Act} {O0:OM} {R:RM} {M:List Nat}
theorem evP_keys {O O':OM} {R R':RM} {x:AVal} {v:Value} (hk : ∀K∈x.keys,O' K=O K∧R' K=R K) (h:EvP w O R x v):EvP w O' R' x v:=by
 cases x <;> simp only [EvP] at h ⊢
 · exact h
 · obtain ⟨h1,h2⟩:=hk _ (by simp [AVal.keys];rfl)
   rw [h1,h2];exact h
 · obtain ⟨h1,h2⟩:=hk _ (by simp [AVal.keys];rfl)
   rw [h1,h2];exact h
theorem evPs_keys {O O':OM} {R R':RM} : ∀{cs:List AVal} {vs:List Value},(∀K∈keysL cs,O' K=O K∧R' K=R K)→EvPs w O R cs vs→EvPs w O' R' cs vs
 | [],vs,_,h=>h
 | c::cs,vs,hk,h=>by
   simp only [EvPs] at h ⊢
   obtain ⟨v,r,h1,h2,h3⟩:=h
   exact ⟨v,r,h1,evP_keys (fun K hK=>hk K (by simp [keysL,hK])) h2,evPs_keys (fun K hK=>hk K (by simp [keysL,hK])) h3⟩
mutual
theorem ev_keysV {O O':OM} {R R':RM} : ∀(x:AVal) (v:Value),(∀K∈x.keys,O' K=O K∧R' K=R K)→EvV w fz O R x v→EvV w fz O' R' x v
 | .und,v,_,h=>by simpa only [EvV] using h
 | .bool _,v,_,h=>by simpa only [EvV] using h
 | .int _ _,v,_,h=>by simpa only [EvV] using h
 | .str _,v,_,h=>by simpa only [EvV] using h
 | .nilp,v,_,h=>by simpa only [EvV] using h
 | .unk,v,_,h=>by simpa only [EvV] using h
 | .nils _,v,_,h=>by simpa only [EvV] using h
 | .ro _ _ _,v,_,h=>by simpa only [EvV] using h
 | .own _ _,v,_,h=>by simp [EvV] at h
 | .rop _ _,v,_,h=>by simpa only [EvV] using h
 | .ptr K q off,v,hk,h=>by simp only [EvV,EvR] at h ⊢;exact evP_keys hk h
 | .ref K q,v,hk,h=>by simp only [EvV,EvR] at h ⊢;exact evP_keys hk h
 | .clo f cs,v,hk,h=>by
   simp only [EvV,EvR] at h ⊢
   obtain ⟨vs,h1,h2⟩:=h
   exact ⟨vs,h1,evPs_keys (by simpa [AVal.keys] using hk) h2⟩
 | .agg cs,v,hk,h=>by
   simp only [EvV] at h ⊢
   obtain ⟨vs,h1,h2⟩:=h
   exact ⟨vs,h1,ev_keysL cs vs.toList (by simpa [AVal.keys] using hk) h2⟩
 | .tup cs,v,hk,h=>by
   simp only [EvV] at h ⊢
   obtain ⟨vs,h1,h2⟩:=h
   exact ⟨vs,h1,ev_keysL cs vs.toList (by simpa [AVal.keys] using hk) h2⟩
theorem ev_keysL {O O':OM} {R R':RM} : ∀(xs:List AVal) (vs:List Value),(∀K∈keysL xs,O' K=O K∧R' K=R K)→EvL w fz O R xs vs→EvL w fz O' R' xs vs
 | [],vs,_,h=>by simpa only [EvL] using h
 | x::xs,vs,hk,h=>by
   simp only [EvL] at h ⊢
   obtain ⟨v,r,h1,h2,h3⟩:=h
   exact ⟨v,r,h1,ev_keysV x v (fun K hK=>hk K (by simp [keysL,hK])) h2,ev_keysL xs r (fun K hK=>hk K (by simp [keysL,hK])) h3⟩
end
theorem flat_keys {x:AVal} (h:flatV x=true):x.keys=[]:=by cases x <;> simp [flatV] at h <;> rfl
theorem holdCells_keys {d i:Nat} : ∀(cs:List AVal) (c:Nat) (s:St),cs.all flatV=true → ∀K∈keysL (holdCells s d i c cs).2,compKey d i c≤K∧K<compKey d i (c+cs.length)
 | [],c,s,_,K,hK=>by simp [holdCells,keysL] at hK
 | x::cs,c,s,hfl,K,hK=>by
   simp only [List.all_cons,Bool.and_eq_true] at hfl
   have e:c+(x::cs).length=c+1+cs.length:=by simp;omega
   rw [e]
   by_cases hx : ∃sz xs,x=.own sz xs
   · obtain ⟨sz,xs,rfl⟩:=hx
     simp only [holdCells,keysL,AVal.keys,List.cons_append,List.nil_append,List.mem_cons] at hK
     rcases hK with rfl|hK
     · simp only [compKey];omega
     · have:=holdCells_keys cs (c+1) _ hfl.2 K hK
       simp only [compKey] at this ⊢;omega
   · have e1:holdCells s d i c (x::cs)=((holdCells s d i (c+1) cs).1,x::(holdCells s d i (c+1) cs).2):=by
      cases x <;> simp only [holdCells] <;> exact absurd ⟨_,_,rfl⟩ hx
     rw [e1] at hK
     simp only [keysL,flat_keys hfl.1,List.nil_append] at hK
     have:=holdCells_keys cs (c+1) _ hfl.2 K hK
     simp only [compKey] at this ⊢;omega
theorem holdAll_ok {E:Env2} {d:Nat} : ∀(us:List AVal) (i:Nat) (s:St) (O:OM) (R:RM) (F:Nat→Foot) (G f:Foot) (rvs:List Value),us.all flatR=true→(us.all fun v=>Nat.ble v.cells.length 15)=true→RelO w fz al E O R F (fun b=>G b+f b)→HandRL w fz NoE us rvs f →
 ∃O' R',Held w fz al E s (holdAll s d i us).1 O O' R R' G (compKey d i 0) (compKey d (i+us.length) 0)∧EvL w fz O' R' (holdAll s d i us).2 rvs
 | [],i,s,O,R,F,G,f,rvs,_,_,h,hl=>by
   simp only [HandRL] at hl
   obtain ⟨rfl,hf⟩:=hl
   refine ⟨O,R,?_,by simp [holdAll,EvL]⟩
   simp only [holdAll]
   exact Held.same (G:=G) (h.lose (G':=G) fun b=>by omega) _ _
 | v::us,i,s,O,R,F,G,f,rvs,hfl,hle,h,hl=>by
   simp only [List.all_cons,Bool.and_eq_true,Nat.ble_eq] at hfl hle
   simp only [HandRL] at hl
   obtain ⟨val,rest,f1,f2,rfl,h1,h2,h3⟩:=hl
   have hr:RelO w fz al E O R F (fun b=>(G b+f2 b)+f1 b):=h.lose fun b=>by rw [h3];omega
   have step : ∃O1 R1,Held w fz al E s (holdV s d i v).1 O O1 R R1 (fun b=>G b+f2 b) (compKey d i 0) (compKey d (i+1) 0)∧EvV w fz O1 R1 (holdV s d i v).2 val ∧ ∀K∈((holdV s d i v).2).keys,K<compKey d (i+1) 0:=by
    by_cases hx : ∃sz xs,v=.own sz xs
    · obtain ⟨sz,xs,rfl⟩:=hx
      have h1':OwC w fz NoE (.own sz xs) [val] f1:=h1
      exact ⟨_,_,(hold_one (s:=s) (K:=compKey d i 15) hr h1').widen (by simp only [compKey];omega) (by simp only [compKey];omega),held_ref h1' (by simp [upO]) (by simp [upR]),fun K hK=>by
       simp only [holdV,AVal.keys,List.mem_singleton] at hK
       subst hK;simp only [compKey];omega⟩
    · cases v with
      | agg cs=>
        obtain ⟨ws,rfl,hw⟩:=h1
        obtain ⟨O1,R1,k1,k2⟩:=holdCells_ok (d:=d) (i:=i) cs 0 s O R F _ f1 ws.toList (by simpa [flatR] using hfl.1) hr hw
        have hlen:cs.length≤15:=hle.1
        refine ⟨O1,R1,k1.widen (Nat.le_refl _) (by simp only [compKey];omega),?_,fun K hK => ?_⟩
        · simp only [holdV,EvV];exact ⟨ws,rfl,k2⟩
        · have:=holdCells_keys (d:=d) (i:=i) cs 0 s (by simpa [flatR] using hfl.1) K (by simpa [holdV,AVal.keys] using hK)
          simp only [compKey] at this ⊢;omega
      | own sz xs=>exact absurd ⟨_,_,rfl⟩ hx
      | tup cs=>
        have hfv:=hfl.1
        simp only [flatR,bxQ] at hfv
        split at hfv
        · rename_i c
          obtain ⟨l,k1,k2⟩:=hold_box (s:=s) (K:=compKey d i 15) hr h1
          exact ⟨_,_,k1.widen (by simp only [compKey];omega) (by simp only [compKey];omega),k2 _ _ (by simp [upO]) (by simp [upR]),fun K hK=>by
           simp only [holdV,AVal.keys,List.mem_singleton] at hK
           subst hK;simp only [compKey];omega⟩
        · simp at hfv
      | und=>exact ⟨O,R,(Held.same (G:=fun b=>G b+f2 b) (h.lose fun b=>by rw [h3];omega) _ _),by simp only [holdV,EvV];have h1':OwC w fz NoE .und [val] f1:=h1;simp only [OwC] at h1';obtain ⟨⟨v,e,hv⟩,_⟩:=h1';simp only [List.cons.injEq,and_true] at e;subst e;exact hv,fun K hK=>by simp [holdV,AVal.keys] at hK⟩
      | _=>
        have hfv:=hfl.1
        first
         | (simp [flatR,flatV] at hfv;done)
         | (refine ⟨O,R,(Held.same (G:=fun b=>G b+f2 b) (h.lose fun b=>by rw [h3];omega) _ _),by simp only [holdV];exact flat_ev (by simpa [flatR] using hfv) (by simp) h1,fun K hK=>by simp [holdV,AVal.keys] at hK⟩)
   obtain ⟨O1,R1,k1,k2,k3⟩:=step
   obtain ⟨F1,hF1⟩:=k1.rel
   obtain ⟨O2,R2,m1,m2⟩:=holdAll_ok us (i+1) (holdV s d i v).1 O1 R1 F1 G f2 rest hfl.2 hle.2 hF1 h2
   have e:i+(v::us).length=i+1+us.length:=by simp;omega
   have e1:holdAll s d i (v::us)=((holdAll (holdV s d i v).1 d (i+1) us).1,(holdV s d i v).2::(holdAll (holdV s d i v).1 d (i+1) us).2):=by simp only [holdAll]
   rw [e,e1]
   refine ⟨O2,R2,k1.seq m1 (Nat.le_refl _) (by simp only [compKey];omega) (by simp only [compKey];omega) (Nat.le_refl _),?_⟩
   simp only [EvL]
   refine ⟨val,rest,rfl,ev_keysV _ _ (fun K hK => ?_) k2,m2⟩
   obtain ⟨q1,q2,_⟩:=m1.out K (.inl (k3 K hK))
   exact ⟨q1,q2⟩
theorem frzO_at : ∀(l:List (Nat×List Nat)) (O O':OM) (K:Nat),O K=O' K→frzO O l K=frzO O' l K
 | [],O,O',K,h=>h
 | (J,q)::l,O,O',K,h=>by
   by_cases hJ:J=K
   · subst hJ
     simp only [frzO]
     rw [h]
     cases hO:O' J with
     | none=>exact frzO_at l O O' J h
     | some o=>exact frzO_at l _ _ J (by simp only [upO,if_true])
   · have up : ∀Q:OM,∃X:OM,frzO Q ((J,q)::l)=frzO X l∧X K=Q K:=fun Q=>by
      cases hQ:Q J with
      | none=>exact ⟨Q,by simp only [frzO,hQ],rfl⟩
      | some o=>exact ⟨_,by simp only [frzO,hQ];rfl,by simp only [upO,if_neg (Ne.symm hJ)]⟩
     obtain ⟨X,e1,e2⟩:=up O
     obtain ⟨Y,e3,e4⟩:=up O'
     rw [e1,e3]
     exact frzO_at l X Y K (by rw [e2,e4];exact h)
theorem freeze_at : ∀(l:List (Nat×List Nat)) (s:St) (K:Nat),lk (s.freeze l).objs K=frzO (lk s.objs) l K∧(s.freeze l).ki=s.ki∧(s.freeze l).ka=s.ka∧(s.freeze l).kr=s.kr∧(s.freeze l).env=s.env
 | [],s,K=>⟨rfl,rfl,rfl,rfl,rfl⟩
 | (J,q)::l,s,K=>by
   simp only [St.freeze,frzO,St.obj]
   cases hO:lk s.objs J with
   | none=>exact freeze_at l s K
   | some o=>
     obtain ⟨h1,h2⟩:=freeze_at l (s.setObj J { o with c:=o.c.put q (asRo (o.c.get q)) }) K
     refine ⟨?_,h2⟩
     rw [h1]
     refine frzO_at l _ _ K ?_
     simp only [St.setObj,lk_ins,upO]
end
end Go.VK
namespace Go.VK
open AVal
section
variable {P:Program} {Φ:Ctx} {C:Oracle} {w w':World} {fz fz1 fz2 al:Nat→Prop} {s s1:St} {a:Act} {O0:OM} {R:RM} {M:List Nat} {F:Nat→Foot}
theorem frzO_off : ∀(l:List (Nat×List Nat)) (O:OM) (K:Nat),(∀x∈l,K≠x.1)→frzO O l K=O K
 | [],O,K,_=>rfl
 | (J,q)::l,O,K,h=>by
   have hJ:K≠J:=h (J,q) (by simp)
   cases hO:O J with
   | none=>simp only [frzO,hO];exact frzO_off l O K fun x hx=>h x (by simp [hx])
   | some o=>
     simp only [frzO,hO]
     rw [frzO_off l _ K fun x hx=>h x (by simp [hx])]
     simp only [upO,if_neg hJ]
theorem OwO.any {E E':Env2} {o:VObj} {l:VK.Loc} {f:Foot} (hk:noRo o.c=true) (h:OwO w fz E o l f):OwO w fz2 E' o l f:=by
 unfold OwO at h ⊢
 split
 · rename_i hb
   rw [if_pos hb] at h
   obtain ⟨b,cs,f',k1,k2,k3,k4⟩:=h
   exact ⟨b,cs,f',k1,k2,noRo_fz _ _ _ hk k3,k4⟩
 · rename_i hb
   rw [if_neg hb] at h
   obtain ⟨v,k1,k2,k3⟩:=h
   exact ⟨v,k1,noRo_fz _ _ _ hk k2,k3⟩
theorem HandV.any {E E':Env2} {v:AVal} {val:Value} {g:Foot} (hk:noRo v=true) (h:HandV w fz E v val g):HandV w fz2 E' v val g:=by
 cases v with
 | agg cs=>obtain ⟨ws,h1,h2⟩:=h;exact ⟨ws,h1,noRo_L _ _ _ (by simpa only [noRo] using hk) h2⟩
 | _=>
   have h':OwC w fz E _ [val] g:=h
   exact noRo_fz _ _ _ hk h'
theorem HandL.any {E E':Env2} : ∀{vs:List AVal} {ws:List Value} {g:Foot},noRoL vs=true→HandL w fz E vs ws g→HandL w fz2 E' vs ws g
 | [],ws,g,_,h=>h
 | v::vs,ws,g,hk,h=>by
   simp only [noRoL,Bool.and_eq_true] at hk
   simp only [HandL] at h ⊢
   obtain ⟨val,r,g1,g2,h0,h1,h2,h3⟩:=h
   exact ⟨val,r,g1,g2,h0,h1.any hk.1,HandL.any hk.2 h2,h3⟩
theorem HandV.mono {E:Env2} {v:AVal} {val:Value} {g:Foot} (hf : ∀b,fz b→fz2 b) (h:HandV w fz E v val g):HandV w fz2 E v val g:=by
 cases v with
 | agg cs=>obtain ⟨ws,h1,h2⟩:=h;exact ⟨ws,h1,OwL.mono (fun b hb=>⟨hf b hb,rfl⟩) _ _ _ (fun _ _ _ h=>h) _ _ (fun _ _=>rfl) h2⟩
 | _=>
   have h':OwC w fz E _ [val] g:=h
   exact OwC.mono (fun b hb=>⟨hf b hb,rfl⟩) _ _ _ (fun _ _ _ h=>h) _ _ (fun _ _=>rfl) h'
theorem HandL.mono {E:Env2} (hf : ∀b,fz b→fz2 b) : ∀{vs:List AVal} {ws:List Value} {g:Foot},HandL w fz E vs ws g→HandL w fz2 E vs ws g
 | [],ws,g,h=>h
 | v::vs,ws,g,h=>by
   simp only [HandL] at h ⊢
   obtain ⟨val,r,g1,g2,h0,h1,h2,h3⟩:=h
   exact ⟨val,r,g1,g2,h0,h1.mono hf,HandL.mono hf h2,h3⟩
theorem HandR.any {E E':Env2} {v:AVal} {val:Value} {g:Foot} (hk:noRo v=true) (h:HandR w fz E v val g):HandR w fz2 E' v val g:=by
 by_cases hn : ∃cs,v=.tup cs
 · obtain ⟨cs,rfl⟩:=hn
   match cs,h with
   | [c],h=>
     obtain ⟨b,ks,f',h1,h2,h3,h4⟩:=h
     simp only [noRo,noRoL,Bool.and_true] at hk
     exact ⟨b,ks,f',h1,h2,noRo_fz _ _ _ hk h3,h4⟩
 · exact ((h.toV fun cs he=>hn ⟨cs,he⟩).any hk).toR
theorem HandRL.any {E E':Env2} : ∀{vs:List AVal} {ws:List Value} {g:Foot},noRoL vs=true→HandRL w fz E vs ws g→HandRL w fz2 E' vs ws g
 | [],ws,g,_,h=>h
 | v::vs,ws,g,hk,h=>by
   simp only [noRoL,Bool.and_eq_true] at hk
   simp only [HandRL] at h ⊢
   obtain ⟨val,r,g1,g2,h0,h1,h2,h3⟩:=h
   exact ⟨val,r,g1,g2,h0,h1.any hk.1,HandRL.any hk.2 h2,h3⟩
theorem HandR.mono {E:Env2} {v:AVal} {val:Value} {g:Foot} (hf : ∀b,fz b→fz2 b) (h:HandR w fz E v val g):HandR w fz2 E v val g:=by
 by_cases hn : ∃cs,v=.tup cs
 · obtain ⟨cs,rfl⟩:=hn
   match cs,h with
   | [c],h=>
     obtain ⟨b,ks,f',h1,h2,h3,h4⟩:=h
     exact ⟨b,ks,f',h1,h2,OwC.mono (fun b hb=>⟨hf b hb,rfl⟩) _ _ _ (fun _ _ _ h=>h) _ _ (fun _ _=>rfl) h3,h4⟩
 · exact ((h.toV fun cs he=>hn ⟨cs,he⟩).mono hf).toR
theorem HandRL.mono {E:Env2} (hf : ∀b,fz b→fz2 b) : ∀{vs:List AVal} {ws:List Value} {g:Foot},HandRL w fz E vs ws g→HandRL w fz2 E vs ws g
 | [],ws,g,h=>h
 | v::vs,ws,g,h=>by
   simp only [HandRL] at h ⊢
   obtain ⟨val,r,g1,g2,h0,h1,h2,h3⟩:=h
   exact ⟨val,r,g1,g2,h0,h1.mono hf,HandRL.mono hf h2,h3⟩
theorem RelO.sub {E:Env2} {O O':OM} {G:Foot} (h:RelO w fz al E O R F G) (hs : ∀K o,O' K=some o→O K=some o):RelO w fz al E O' R F G:=
 ⟨fun K o ho=>h.obj K o (hs K o ho),fun K o ho=>h.one K o (hs K o ho),fun K o J u hn ho hu=>h.dis K o J u hn (hs K o ho) (hs J u hu),fun K o ho=>h.own K o (hs K o ho),h.g1,fun K o ho=>h.gd K o (hs K o ho),h.go,h.lt⟩
def fsOf (F':Nat→Foot) (k n:Nat):List Foot:=(List.range' k n).map fun i=>F' (passBase+i)
theorem fsOf_len (F':Nat→Foot) (k n:Nat):(fsOf F' k n).length=n:=by simp [fsOf]
theorem fsOf_at (F':Nat→Foot) (k n j:Nat) (h:j<n):(fsOf F' k n)[j]? = some (F' (passBase+(k+j))):=by
 simp [fsOf,h]
theorem fsOf_zero {F':Nat→Foot} {b:Nat} : ∀(n k:Nat),(∀i,k≤i→i<k+n→F' (passBase+i) b=0)→sumF (fsOf F' k n) b=0
 | 0,k,_=>rfl
 | n+1,k,h=>by
   have e:fsOf F' k (n+1)=F' (passBase+k)::fsOf F' (k+1) n:=by simp [fsOf,List.range'_succ]
   rw [e]
   simp only [sumF]
   rw [h k (Nat.le_refl _) (by omega),fsOf_zero n (k+1) fun i h1 h2=>h i (by omega) (by omega)]
theorem fsOf_pos {F':Nat→Foot} {b n k:Nat} (h:0<sumF (fsOf F' k n) b) : ∃i,k≤i∧i<k+n∧0<F' (passBase+i) b:=by
 apply Classical.byContradiction
 intro hn
 have:=fsOf_zero (F':=F') (b:=b) n k fun i h1 h2=>by
  apply Classical.byContradiction
  intro h3
  exact hn ⟨i,h1,h2,by omega⟩
 omega
theorem fsOf_app {F':Nat→Foot} {b n m k:Nat}:sumF (fsOf F' k (n+m)) b=sumF (fsOf F' k n) b+sumF (fsOf F' (k+n) m) b:=by
 induction n generalizing k with
 | zero=>simp [fsOf,sumF,zf]
 | succ n ih=>
   have e1:fsOf F' k (n+1+m)=F' (passBase+k)::fsOf F' (k+1) (n+m):=by
    have:n+1+m=(n+m)+1:=by omega
    rw [this];simp [fsOf,List.range'_succ]
   have e2:fsOf F' k (n+1)=F' (passBase+k)::fsOf F' (k+1) n:=by simp [fsOf,List.range'_succ]
   have e3:k+(n+1)=k+1+n:=by omega
   rw [e1,e2,e3]
   simp only [sumF]
   rw [ih (k:=k+1)];omega
theorem fsOf_one {E:Env2} {os:List VObj} {F':Nat→Foot} {g:Foot} (h:RelO w fz al E (objsM os) R F' g) : ∀(n k:Nat),k+n≤os.length → ∀b,sumF (fsOf F' k n) b+g b≤1
 | 0,k,_,b=>by have:=h.g1 b;simpa [fsOf,sumF,zf] using this
 | n+1,k,hk,b=>by
   have e:fsOf F' k (n+1)=F' (passBase+k)::fsOf F' (k+1) n:=by simp [fsOf,List.range'_succ]
   rw [e]
   simp only [sumF]
   have ih:=fsOf_one h n (k+1) (by omega) b
   have hok:objsM os (passBase+k)=some os[k]:=by rw [objsM_at];exact List.getElem?_eq_getElem (by omega)
   by_cases h0:F' (passBase+k) b=0
   · omega
   · have h1:=h.one _ _ hok b
     have hg:=h.gd _ _ hok b
     have hz:=fsOf_zero (F':=F') (b:=b) n (k+1) fun i h2 h3=>by
      have hoi:objsM os (passBase+i)=some os[i]:=by rw [objsM_at];exact List.getElem?_eq_getElem (by omega)
      have:=h.dis _ _ _ _ (by omega:passBase+k≠passBase+i) hok hoi b
      omega
     omega
structure Ret (w:World) (fz al:Nat→Prop) (O0:OM) (R:RM) (F:Nat→Foot) (M:List Nat) (s1:St) (ks:List Nat) (lent rf:List (Nat×List Nat)) (gs:List Foot) (lvs:List Value) (froz:Bool) (rs:List AVal) (os:List VObj) (rvs:List Value) (w':World) (fzN:Nat→Prop) (OA:OM) (FA:Nat→Foot) (F':Nat→Foot) (g:Foot):Prop where
 rel:RelO w' fzN al (EvR w O0 R) OA R FA (fun b=>sumF (fsOf F' 0 ks.length) b+(sumF (fsOf F' ks.length lent.length) b+g b))
 objs : ∀(i:Nat) (n:VObj),os[i]? = some n→OwO w' fzN (EvR w O0 R) n (RE R ks lvs (passBase+i)) (F' (passBase+i))
 res:HandRL w' fzN NoE rs rvs g
 len:os.length=ks.length+lent.length
 oa : ∀K,OA K=if froz then frzO (minus (Amb M O0 s1) ks) rf K else minus (Amb M O0 s1) ks K
 fz0 : ∀b,fz b→fzN b∧w'.heap[b]? = w.heap[b]?
 fz1 : ∀b,fzN b→fz b∨al b
 same : ∀K o,Amb M O0 s1 K=some o→K∉ks → ∀b,(0<F K b∨fz b)→w'.heap[b]? = w.heap[b]?
 keep:Keep w al w'
theorem ret_ok {ks:List Nat} {os os' ls:List VObj} {lent rf:List (Nat×List Nat)} {lvs:List Value} {gs:List Foot} {rs:List AVal} {rvs:List Value} {F2 F':Nat→Foot} {g:Foot} {froz:Bool}
 (h1:RelO w fz al (EvR w O0 R) (Amb M O0 s1) R F (sumF gs)) (hlent:LentH w fz O0 R lent ls lvs gs) (hos:objsOf s1 ks ks=some os) (hksM : ∀K∈ks,K∈M) (hkO : ∀K∈ks,∃u,O0 K=some u) (hal : ∀b,w.heap.size≤b→al b)
 (hg:RelO w fz1 al (EvR w O0 R) (frzO (minus (Amb M O0 s1) ks) rf) R F2 (sumF gs)) (hf01 : ∀b,fz b→fz1 b) (hf10 : ∀b,fz1 b→fz b ∨ ∃x∈rf,0<F x.1 b) (hF2 : ∀J b,F2 J b≤F J b)
 (hro:(∀x∈rf,∀o,minus (Amb M O0 s1) ks x.1=some o→roQ (o.c.get x.2)=true) → ∀b,fz1 b→fz b) (hfd : ∀K,minus (Amb M O0 s1) ks K=none→frzO (minus (Amb M O0 s1) ks) rf K=none)
 (hrf : ∀x∈rf,x.1∉ks∧x.1∈M ∧ ∃o,minus (Amb M O0 s1) ks x.1=some o∧isSl (o.c.get x.2)=true) (hna : ∀b,fz1 b → ¬alE w F ks gs b)
 (hB:Back w fz1 (alE w F ks gs) (os++ls) (RE R ks lvs) rs os' rvs w' fz2 F' g)
 (hlow : ∀o∈os',lowV ks.length o.c=true) (hcond:froz=true∨(∀x∈rf,∀o,minus (Amb M O0 s1) ks x.1=some o→roQ (o.c.get x.2)=true)∨(noRoL rs=true ∧ ∀o∈os',noRo o.c=true)) :
 ∃fzN OA FA,Ret w fz al O0 R F M s1 ks lent rf gs lvs froz rs (os'.map (renVO (ofN ks))) rvs w' fzN OA FA F' g:=by
 have hsub : ∀K o,minus (Amb M O0 s1) ks K=some o→Amb M O0 s1 K=some o:=fun K o ho=>by
  simp only [minus] at ho;split at ho
  · simp at ho
  · exact ho
 have hnk : ∀K o,minus (Amb M O0 s1) ks K=some o→K∉ks:=fun K o ho hk=>by simp only [minus,if_pos hk] at ho;simp at ho
 have hAk : ∀J∈ks,∃o,Amb M O0 s1 J=some o:=fun J hJ=>by
  obtain ⟨i,hi⟩:=List.getElem?_of_mem hJ
  obtain ⟨o,_,g2,_⟩:=(objsOf_spec ks os hos).2 i J hi
  exact ⟨o,by simp only [Amb,if_pos (hksM J hJ)];exact g2⟩
 have hola:(os++ls).length=ks.length+lent.length:=by rw [List.length_append,(objsOf_spec ks os hos).1,(lentH_len hlent).1]
 have hlen:os'.length=ks.length+lent.length:=by rw [hB.len,hola]
 have hout : ∀K o,Amb M O0 s1 K=some o→K∉ks → ∀b,0<F K b → ¬alE w F ks gs b:=fun K o ho hk b hb=>by
  rintro (h|⟨J,hJ,h⟩|h)
  · have:=(h1.obj K o ho).lt hb;omega
  · obtain ⟨u,hu⟩:=hAk J hJ
    have:=h1.dis K o J u (fun he=>hk (he▸hJ)) ho hu b;omega
  · have:=h1.gd K o ho b;omega
 have hfze : ∀b,fz b → ¬alE w F ks gs b:=fun b hb=>hna b (hf01 b hb)
 have hblk : ∀b,b<w.heap.size → ¬alE w F ks gs b→w'.heap[b]? = w.heap[b]? := hB.keep.block
 have hsame : ∀K o,Amb M O0 s1 K=some o→K∉ks → ∀b,(0<F K b∨fz b)→w'.heap[b]? = w.heap[b]? := fun K o ho hk b hb=>by
  rcases hb with hb|hb
  · exact hblk b ((h1.obj K o ho).lt hb) (hout K o ho hk b hb)
  · exact hblk b (h1.lt b hb) (hfze b hb)
 have halE : ∀b,alE w F ks gs b→al b:=fun b hb=>by
  rcases hb with h|⟨J,hJ,h⟩|h
  · exact hal b h
  · obtain ⟨u,hu⟩:=hAk J hJ
    exact (h1.own J u hu b h).1
  · exact (h1.go b h).1
 have hkeep:Keep w al w':=⟨hB.keep.os,hB.keep.tape,hB.keep.output,hB.keep.size,fun b hb hn=>hblk b hb fun h=>hn (halE b h)⟩
 have hTsum : ∀b,sumF (fsOf F' 0 ks.length) b+(sumF (fsOf F' ks.length lent.length) b+g b)=sumF (fsOf F' 0 (ks.length+lent.length)) b+g b:=fun b=>by
  rw [fsOf_app];simp only [Nat.zero_add];omega
 have hT1 : ∀b,sumF (fsOf F' 0 ks.length) b+(sumF (fsOf F' ks.length lent.length) b+g b)≤1:=fun b=>by
  rw [hTsum];exact fsOf_one hB.ro _ 0 (by omega) b
 have hTal : ∀b,0<sumF (fsOf F' 0 ks.length) b+(sumF (fsOf F' ks.length lent.length) b+g b)→alE w F ks gs b ∧ ¬fz2 b:=fun b hb=>by
  rw [hTsum] at hb
  by_cases hg0:0<g b
  · exact hB.ro.go b hg0
  · obtain ⟨i,_,hi,hpos⟩:=fsOf_pos (F':=F') (b:=b) (n:=ks.length+lent.length) (k:=0) (by omega)
    have hoi:objsM os' (passBase+i)=some os'[i]:=by rw [objsM_at];exact List.getElem?_eq_getElem (by omega)
    exact hB.ro.own _ _ hoi b hpos
 have hobj2 : ∀(i:Nat) (n:VObj),os'[i]? = some n→OwO w' fz2 (EvR w' (objsM os') (RE R ks lvs)) n (RE R ks lvs (passBase+i)) (F' (passBase+i)):=fun i n hi=>hB.ro.obj _ _ (by rw [objsM_at];exact hi)
 have hmapat : ∀(i:Nat) (n:VObj),(os'.map (renVO (ofN ks)))[i]? = some n → ∃n',os'[i]? = some n'∧n=renVO (ofN ks) n':=fun i n hi=>by
  rw [List.getElem?_map] at hi
  cases ho:os'[i]? with
  | none=>rw [ho] at hi;simp at hi
  | some n'=>rw [ho] at hi;simp only [Option.map_some,Option.some.injEq] at hi;exact ⟨n',rfl,hi.symm⟩
 have hback : ∀K∈keysN os'.length,∀v off,EvP w' (objsM os') (RE R ks lvs) (.ptr K [] off) v→EvP w O0 R (.ptr (ofN ks K) [] off) v:=fun K hK v off hv=>by
  obtain ⟨i,hi,rfl⟩:=keysN_mem.1 hK
  simp only [EvP] at hv ⊢
  obtain ⟨o,b,q,_,hw,rfl⟩:=hv
  rw [walk_nil] at hw
  have e2:passBase+i-passBase=i:=by omega
  by_cases hik:i<ks.length
  · have hre:RE R ks lvs (passBase+i)=R (ofN ks (passBase+i)):=by
     unfold RE ofN;rw [if_neg (by omega),e2,if_pos hik]
    have hmem:ofN ks (passBase+i)∈ks:=by
     unfold ofN;rw [e2,List.getD_eq_getElem?_getD,List.getElem?_eq_getElem hik];exact List.getElem_mem hik
    obtain ⟨u,hu⟩:=hkO _ hmem
    exact ⟨u,b,q,hu,by rw [walk_nil,←hre];exact hw,rfl⟩
  · exfalso
    have hre:RE R ks lvs (passBase+i)=.val (lvs.getD (i-ks.length) undef):=by
     unfold RE;rw [if_neg (by omega),e2,if_neg hik]
    rw [hre] at hw;simp at hw
 have hbackV : ∀K∈(valKs (objsM os') (keysN os'.length)).filter (fun K=>Nat.blt K (passBase+ks.length)),∀v,EvP w' (objsM os') (RE R ks lvs) (.ref K []) v→EvP w O0 R (.ref (ofN ks K) []) v:=fun K hKf v hv=>by
  obtain ⟨hKv,hlt⟩:=List.mem_filter.1 hKf
  obtain ⟨hK,u1,hu1,hbx⟩:=valKs_mem.1 hKv
  obtain ⟨i,hi,rfl⟩:=keysN_mem.1 hK
  have e2:passBase+i-passBase=i:=by omega
  have hik:i<ks.length:=by have:passBase+i<passBase+ks.length:=by simpa using hlt
                           omega
  have hre:RE R ks lvs (passBase+i)=R (ofN ks (passBase+i)):=by
   unfold RE ofN;rw [if_neg (by omega),e2,if_pos hik]
  have hmem:ofN ks (passBase+i)∈ks:=by
   unfold ofN;rw [e2,List.getD_eq_getElem?_getD,List.getElem?_eq_getElem hik];exact List.getElem_mem hik
  obtain ⟨u,hu⟩:=hkO _ hmem
  have hob:=hB.ro.obj _ _ hu1
  unfold OwO at hob;rw [if_neg (by simp [hbx])] at hob
  obtain ⟨v',hl,_⟩:=hob
  simp only [EvP] at hv ⊢
  obtain ⟨o,l,_,hw,hh,h1v⟩:=hv
  rw [walk_nil,hl] at hw
  obtain rfl:=Option.some.inj hw
  exact ⟨u,.val v',hu,by rw [walk_nil,←hre,hl],by simpa [hdOf] using hh,h1v⟩
 have hnk2 : ∀n'∈os',tieV (keysN os'.length) ((valKs (objsM os') (keysN os'.length)).filter fun K=>Nat.blt K (passBase+ks.length)) n'.c=true:=fun n' hn'=>tie_low (hB.nk n' hn') (hlow n' hn')
 have hlenm:(os'.map (renVO (ofN ks))).length=ks.length+lent.length:=by rw [List.length_map,hlen]
 cases froz with
 | true=>
   refine ⟨fz2,frzO (minus (Amb M O0 s1) ks) rf,F2,⟨?_,fun i n hi=>by obtain ⟨n',hn',rfl⟩:=hmapat i n hi;exact OwO.tie hback hbackV (hnk2 n' (List.mem_of_getElem? hn')) (fun b hb=>hb) (hobj2 i n' hn'),hB.res,hlenm,fun K=>by simp,fun b hb=>⟨hB.fz0 b (hf01 b hb),hblk b (h1.lt b hb) (hfze b hb)⟩,fun b hb => ?_,hsame,hkeep⟩⟩
   · have hdom : ∀K o,frzO (minus (Amb M O0 s1) ks) rf K=some o → ∃u,Amb M O0 s1 K=some u∧K∉ks:=fun K o ho=>by
      cases hm:minus (Amb M O0 s1) ks K with
      | none=>rw [hfd K hm] at ho;simp at ho
      | some u=>exact ⟨u,hsub K u hm,hnk K u hm⟩
     refine hg.move (fun b hb => ?_) hB.fz0 (fun K o ho b hb hf => ?_) hB.ro.lt hT1 (fun K o ho b => ?_) (fun b hb=>⟨halE b (hTal b hb).1,(hTal b hb).2⟩)
     · rcases hb with ⟨K,o,ho,hb⟩|hb
       · obtain ⟨u,hu,hk⟩:=hdom K o ho
         exact hsame K u hu hk b (.inl (Nat.lt_of_lt_of_le hb (hF2 K b)))
       · exact hblk b (hg.lt b hb) (hna b hb)
     · obtain ⟨u,hu,hk⟩:=hdom K o ho
       rcases hB.fz1 b hf with hf|hf
       · exact (hg.own K o ho b hb).2 hf
       · exact hout K u hu hk b (Nat.lt_of_lt_of_le hb (hF2 K b)) hf
     · obtain ⟨u,hu,hk⟩:=hdom K o ho
       by_cases h0:F2 K b=0
       · exact .inl h0
       · right
         apply Classical.byContradiction
         intro hn
         exact hout K u hu hk b (by have:=hF2 K b;omega) (hTal b (by omega)).1
   · rcases hB.fz1 b hb with hb|hb
     · rcases hf10 b hb with hb|⟨x,hx,hb⟩
       · exact .inl hb
       · obtain ⟨_,_,o,ho,_⟩:=hrf x hx
         exact .inr (h1.own x.1 o (hsub _ _ ho) b hb).1
     · exact .inr (halE b hb)
 | false=>
   have hcond2:(∀b,fz2 b→fz b∨alE w F ks gs b)∨(noRoL rs=true ∧ ∀o∈os',noRo o.c=true):=by
    rcases hcond with h|h|h
    · simp at h
    · exact .inl fun b hb=>(hB.fz1 b hb).imp (hro h b) id
    · exact .inr h
   refine ⟨fun b=>fz b∨(fz2 b∧alE w F ks gs b),minus (Amb M O0 s1) ks,F,⟨?_,fun i n hi => ?_,?_,hlenm,fun K=>by simp,fun b hb=>⟨.inl hb,hblk b (h1.lt b hb) (hfze b hb)⟩,fun b hb=>hb.imp id fun h=>halE b h.2,hsame,hkeep⟩⟩
   · refine (h1.sub hsub).move (fun b hb => ?_) (fun b hb=>.inl hb) (fun K o ho b hb hf => ?_) (fun b hb => ?_) hT1 (fun K o ho b => ?_) (fun b hb=>⟨halE b (hTal b hb).1,?_⟩)
     · rcases hb with ⟨K,o,ho,hb⟩|hb
       · exact hsame K o (hsub K o ho) (hnk K o ho) b (.inl hb)
       · exact hblk b (h1.lt b hb) (hfze b hb)
     · rcases hf with hf|hf
       · exact (h1.own K o (hsub K o ho) b hb).2 hf
       · exact hout K o (hsub K o ho) (hnk K o ho) b hb hf.2
     · rcases hb with hb|hb
       · exact Nat.lt_of_lt_of_le (h1.lt b hb) hB.keep.size
       · exact hB.ro.lt b hb.1
     · by_cases h0:F K b=0
       · exact .inl h0
       · right
         apply Classical.byContradiction
         intro hn
         exact hout K o (hsub K o ho) (hnk K o ho) b (by omega) (hTal b (by omega)).1
     · rintro (hf|hf)
       · exact (hTal b hb).2 (hB.fz0 b (hf01 b hf))
       · exact (hTal b hb).2 hf.1
   · obtain ⟨n',hn',rfl⟩:=hmapat i n hi
     rcases hcond2 with h|h
     · exact OwO.tie hback hbackV (hnk2 n' (List.mem_of_getElem? hn')) (fun b hb=>(h b hb).imp id fun h=>⟨hb,h⟩) (hobj2 i n' hn')
     · have hr:=h.2 n' (List.mem_of_getElem? hn')
       have e:renVO (ofN ks) n'=n':=by simp only [renVO,renC_ro _ hr]
       rw [e];exact OwO.any hr (hobj2 i n' hn')
   · rcases hcond2 with h|h
     · exact hB.res.mono fun b hb=>(h b hb).imp id fun h=>⟨hb,h⟩
     · exact hB.res.any h.1
end
end Go.VK
namespace Go.VK
open AVal
section
variable {P:Program} {Φ:Ctx} {C:Oracle} {w w':World} {fz fz1 fz2 al fzN:Nat→Prop} {s s1:St} {a:Act} {O0:OM} {R:RM} {M:List Nat} {F:Nat→Foot}
theorem frzO_none : ∀(l:List (Nat×List Nat)) (O:OM) (K:Nat),O K=none→frzO O l K=none
 | [],O,K,h=>h
 | (J,q)::l,O,K,h=>by
   cases hO:O J with
   | none=>simp only [frzO,hO];exact frzO_none l O K h
   | some o=>
     simp only [frzO,hO]
     refine frzO_none l _ K ?_
     have:K≠J:=by rintro rfl;rw [h] at hO;simp at hO
     simp only [upO,if_neg this];exact h
theorem OwO.kind {E:Env2} {o:VObj} {l:VK.Loc} {f:Foot} (h:OwO w fz E o l f):o.box=true ↔ ∃b q,l=.mem b q:=by
 unfold OwO at h
 split at h
 · rename_i hb
   obtain ⟨b,cs,f',k1,_⟩:=h
   exact ⟨fun _=>⟨_,_,k1⟩,fun _=>hb⟩
 · rename_i hb
   obtain ⟨v,k1,_⟩:=h
   exact ⟨fun h=>absurd h hb,fun ⟨b,q,he⟩=>by rw [k1] at he;simp at he⟩
theorem back_ok {ks:List Nat} {os os' ls:List VObj} {lent rf:List (Nat×List Nat)} {lvs:List Value} {gs:List Foot} {rs:List AVal} {rvs:List Value} {F' FA:Nat→Foot} {g:Foot} {froz:Bool} {OA:OM} {sA sB:St}
 (hret:Ret w fz al O0 R F M s1 ks lent rf gs lvs froz rs os' rvs w' fzN OA FA F' g) (hm:Mid M O0 s1) (h1:RelO w fz al (EvR w O0 R) (Amb M O0 s1) R F (sumF gs)) (hlent:LentH w fz O0 R lent ls lvs gs) (hos:objsOf s1 ks ks=some os)
 (hnd:ks.Nodup) (hksM : ∀K∈ks,K∈M) (hlM : ∀x∈lent,x.1∈M) (hlk : ∀x∈lent,x.1∉ks) (happ:lentApart lent=true) (hka:s1.ka=[]) (hki : ∀y,y∈s1.ki ↔ ∃x∈lent,(x.1,[])=y) (_hkr:s1.kr=[])
 (hrf : ∀x∈rf,x.1∉ks∧x.1∈M ∧ ∃o,minus (Amb M O0 s1) ks x.1=some o∧isSl (o.c.get x.2)=true) (hfl:froz=true → ∀x∈lent,∀z∈rf,x.1≠z.1)
 (hfw:froz=true → ∀K o,minus (Amb M O0 s1) ks K=some o → ∃o',frzO (minus (Amb M O0 s1) ks) rf K=some o'∧o'.box=o.box ∧ ∀(w2:World) l' q,walk w2 o'.c l' q=walk w2 o.c l' q)
 (_hfd : ∀K,minus (Amb M O0 s1) ks K=none→frzO (minus (Amb M O0 s1) ks) rf K=none)
 (hbw:backWhole s1 ks os' 0=(true,sA)) (hbp:backPart sA lent ls os' ks.length=(true,sB)) :
 ∃FC,RelO w' fzN al (EvR w O0 R) (Amb M O0 (bif froz then sB.freeze rf else sB)) R FC g∧Stab w w' O0 (Amb M O0 (bif froz then sB.freeze rf else sB)) R R (bif froz then sB.freeze rf else sB).ka (bif froz then sB.freeze rf else sB).ki (bif froz then sB.freeze rf else sB).kr∧(bif froz then sB.freeze rf else sB).ka=[] ∧
  ∀K o,lk (bif froz then sB.freeze rf else sB).objs K=some o→K∈M ∧ ∃u,O0 K=some u:=by
 have hsub : ∀K o,minus (Amb M O0 s1) ks K=some o→Amb M O0 s1 K=some o:=fun K o ho=>by
  simp only [minus] at ho;split at ho
  · simp at ho
  · exact ho
 have hl3:=lentH_len hlent
 have hlen:=hret.len
 obtain ⟨OW,FW,w1,w2,w3,w4,w5,w6,w7⟩:=whole_ok ks 0 s1 sA OA FA (fun b=>sumF (fsOf F' ks.length lent.length) b+g b) (fsOf F' 0 ks.length) hbw (by
  have e:(fun b=>(fun b=>sumF (fsOf F' ks.length lent.length) b+g b) b+sumF (fsOf F' 0 ks.length) b)=(fun b=>sumF (fsOf F' 0 ks.length) b+(sumF (fsOf F' ks.length lent.length) b+g b)):=by funext b;dsimp only;omega
  rw [e];exact hret.rel) (fsOf_len ..) hnd (fun j K hj=>by
  have hjl:=(List.getElem?_eq_some_iff.1 hj).1
  have hoj:os'[0+j]? = some os'[0+j]:=List.getElem?_eq_getElem (by omega)
  refine ⟨os'[0+j],F' (passBase+(0+j)),hoj,fsOf_at F' 0 ks.length j hjl,?_⟩
  have:=hret.objs (0+j) _ hoj
  have e:RE R ks lvs (passBase+(0+j))=R K:=by
   unfold RE
   have e2:passBase+(0+j)-passBase=j:=by omega
   rw [if_neg (by omega),e2,if_pos hjl]
   simp [List.getD_eq_getElem?_getD,hj]
  rw [e] at this;exact this) (fun K hK o ho=>by
  have hA:Amb M O0 s1 K=some o:=by simp only [Amb,if_pos (hksM K hK)];exact ho
  exact (h1.obj K o hA).kind)
 have hOAl : ∀x∈lent,OA x.1=lk s1.objs x.1:=fun x hx=>by
  rw [hret.oa]
  have hk:=hlk x hx
  have hmi:minus (Amb M O0 s1) ks x.1=lk s1.objs x.1:=by simp only [minus,if_neg hk,Amb,if_pos (hlM x hx)]
  cases froz with
  | false=>simpa using hmi
  | true=>
    simp only [if_true]
    rw [frzO_off rf _ x.1 fun z hz=>hfl rfl x hx z hz]
    exact hmi
 obtain ⟨OP,FP,p1,p2,p3,p4,p5,p6,p7⟩:=parts_ok lent ks.length ls sA sB OW FW g (fsOf F' ks.length lent.length) lvs hbp (by
  have e:(fun b=>g b+sumF (fsOf F' ks.length lent.length) b)=(fun b=>sumF (fsOf F' ks.length lent.length) b+g b):=by funext b;omega
  rw [e];exact w1) (fsOf_len ..) (fun j K q hj=>by
  have hjl:=(List.getElem?_eq_some_iff.1 hj).1
  have hx:(K,q)∈lent:=List.mem_of_getElem? hj
  have hKk:K∉ks:=hlk (K,q) hx
  have hKM:K∈M:=hlM (K,q) hx
  obtain ⟨old,v,gg,r1,r2,r3,r4,r5,r6,u,l,r7,r8,r9⟩:=lentH_at hlent j K q hj
  have hoj:os'[ks.length+j]? = some os'[ks.length+j]:=List.getElem?_eq_getElem (by omega)
  obtain ⟨o,ho⟩:=hm.there K u hKM r7 (by rw [hka];simp)
  have hA:Amb M O0 s1 K=some o:=by simp only [Amb,if_pos hKM];exact ho
  obtain ⟨q1,q2,q3⟩:=w3 K hKk
  refine ⟨os'[ks.length+j],F' (passBase+(ks.length+j)),v,old,o,hoj,fsOf_at F' ks.length lent.length j hjl,r2,r1,r5,?_,by rw [q1,hOAl (K,q) hx];exact ho,by rw [q3];exact ho,fun hok => ?_⟩
  · have:=hret.objs (ks.length+j) _ hoj
    have e:RE R ks lvs (passBase+(ks.length+j))=.val v:=by
     unfold RE
     have e2:passBase+(ks.length+j)-passBase=ks.length+j:=by omega
     have e3:ks.length+j-ks.length=j:=by omega
     rw [if_neg (by omega),e2,if_neg (by omega),e3]
     simp [List.getD_eq_getElem?_getD,r2]
    rw [e] at this;exact this
  · obtain ⟨u',hu',_,hho,_⟩:=hm.old K o ho
    rw [r7] at hu';obtain rfl:=Option.some.inj hu'
    obtain ⟨c,f0,t1,t2,t3,t4,t5⟩:=(h1.obj K o hA).loc
    have hs:=hret.same K o hA hKk
    obtain ⟨e1,e2⟩:=walk_same (w':=w') q _ o.c c f0 (R K) (.inl ⟨f0,fun _=>Nat.le_refl _,t1⟩) t2 t3 (fun b hb=>hs b (hb.imp (fun h=>Nat.lt_of_lt_of_le h (t4 b)) id)) (fun b q hbq=>hs b (.inl (t5 b q hbq)))
    have hwk:walk w o.c (R K) q=some l:=by rw [hho.walk _ _ hok];exact r8
    exact ⟨l,by rw [e1];exact hwk,by rw [e2 l hwk];exact r9⟩) (fun i j K q r hn hi hj=>lentApart_off happ i j K q r hn hi hj)
 have hkeep1 : ∀K,K∉ks→(∀x∈lent,K≠x.1)→lk sB.objs K=lk s1.objs K:=fun K hk hl=>by rw [(p3 K hl).2.2,(w3 K hk).2.2]
 have hC:OP=Amb M O0 (bif froz then sB.freeze rf else sB):=by
  funext K
  have hlkC : ∀K,(∀z∈rf,K≠z.1)∨froz=false→lk (bif froz then sB.freeze rf else sB).objs K=lk sB.objs K:=fun K h=>by
   cases froz with
   | false=>rfl
   | true=>
     simp only [cond_true]
     rw [(freeze_at rf sB K).1,frzO_off rf _ K (h.resolve_right (by simp))]
  by_cases hl : ∃x∈lent,K=x.1
  · obtain ⟨x,hx,rfl⟩:=hl
    rw [(p2 x hx).1]
    simp only [Amb,if_pos (hlM x hx)]
    refine (hlkC x.1 ?_).symm
    cases hfz:froz with
    | false=>exact .inr rfl
    | true=>exact .inl fun z hz=>hfl hfz x hx z hz
  · have hl' : ∀x∈lent,K≠x.1:=fun x hx he=>hl ⟨x,hx,he⟩
    rw [(p3 K hl').1]
    by_cases hk:K∈ks
    · rw [(w2 K hk).1]
      simp only [Amb,if_pos (hksM K hk)]
      rw [hlkC K (.inl fun z hz he=>(hrf z hz).1 (he▸hk)),(p3 K hl').2.2]
    · rw [(w3 K hk).1,hret.oa]
      by_cases hKM:K∈M
      · have hmi:minus (Amb M O0 s1) ks K=lk sB.objs K:=by
         simp only [minus,if_neg hk,Amb,if_pos hKM]
         rw [hkeep1 K hk hl']
        simp only [Amb,if_pos hKM]
        cases froz with
        | false=>simpa using hmi
        | true=>
          simp only [if_true,cond_true]
          rw [(freeze_at rf sB K).1]
          exact frzO_at rf _ _ K hmi
      · have hmi:minus (Amb M O0 s1) ks K=O0 K:=by simp only [minus,if_neg hk,Amb,if_neg hKM]
        simp only [Amb,if_neg hKM]
        cases froz with
        | false=>simpa using hmi
        | true=>
          simp only [if_true]
          rw [frzO_off rf _ K fun z hz he=>hKM (he▸(hrf z hz).2.1)]
          exact hmi
 have hfr : ∀K,(bif froz then sB.freeze rf else sB).ki=sB.ki∧(bif froz then sB.freeze rf else sB).ka=sB.ka∧(bif froz then sB.freeze rf else sB).kr=sB.kr:=fun K=>by
  cases froz with
  | false=>exact ⟨rfl,rfl,rfl⟩
  | true=>exact ⟨(freeze_at rf sB K).2.1,(freeze_at rf sB K).2.2.1,(freeze_at rf sB K).2.2.2.1⟩
 refine ⟨FP,by rw [←hC];exact p1,?_,by rw [(hfr 0).2.1,p6,w6,hka],fun K o ho => ?_⟩
 · rw [(hfr 0).1,(hfr 0).2.1,(hfr 0).2.2,←hC]
   refine ⟨fun K u hu _ => ?_⟩
   have hki2 : ∀y,y∈sB.ki↔(∃x∈lent,(x.1,[])=y) ∨ ∃K∈ks,(K,[])=y:=fun K=>by
    rw [p4,w4,hki]
    constructor
    · rintro ((h|h)|h)
      · exact .inl h
      · exact .inr h
      · exact .inl h
    · rintro (h|h)
      · exact .inr h
      · exact .inl (.inr h)
   have hkr2 : ∀K∈ks,K∈sB.kr ∨ ∃v,R K=.val v:=fun K hK=>by rw [p5];exact w5.2 K hK
   by_cases hk:K∈ks
   · have hl' : ∀x∈lent,K≠x.1:=fun x hx he=>hlk x hx (he▸hk)
     obtain ⟨_,o,ho⟩:=w2 K hk
     exact ⟨o,by rw [(p3 K hl').1];exact ho,rfl,fun h=>(hkr2 K hk).elim (fun q=>absurd q h) (fun ⟨v,hv⟩=>by rw [hv];rfl),fun p hn=>by have:=hn (K,[]) ((hki2 _).2 (.inr ⟨K,hk,rfl⟩)) rfl;cases p <;> simp [hitP] at this⟩
   · have hA : ∃o,Amb M O0 s1 K=some o∧Kept s1.ki K u.c o.c:=by
      by_cases hKM:K∈M
      · obtain ⟨o,ho⟩:=hm.there K u hKM hu (by rw [hka];simp)
        obtain ⟨u',hu',_,_,h3⟩:=hm.old K o ho
        rw [hu] at hu';obtain rfl:=Option.some.inj hu'
        exact ⟨o,by simp only [Amb,if_pos hKM];exact ho,h3⟩
      · exact ⟨u,by simp only [Amb,if_neg hKM];exact hu,.refl _ _ _⟩
     obtain ⟨o,ho,hoc⟩:=hA
     obtain ⟨c,f0,t1,t2,t3,t4,t5⟩:=(h1.obj K o ho).loc
     have hs:=hret.same K o ho hk
     have hhd:hdOf w' (R K)=hdOf w (R K):=hdOf_same fun b q hbq=>hs b (.inl (t5 b q hbq))
     by_cases hl : ∃x∈lent,K=x.1
     · obtain ⟨x,hx,rfl⟩:=hl
       obtain ⟨_,o',ho'⟩:=p2 x hx
       exact ⟨o',ho',rfl,fun _=>hhd,fun p hn=>by have:=hn (x.1,[]) ((hki2 _).2 (.inl ⟨x,hx,rfl⟩)) rfl;cases p <;> simp [hitP] at this⟩
     · have hl' : ∀x∈lent,K≠x.1:=fun x hx he=>hl ⟨x,hx,he⟩
       have hoc2 : ∀l q,walk w o.c l q=walk w u.c l q:=fun l q=>hoc w l q fun y hy he=>by
        obtain ⟨x,hx,e⟩:=(hki y).1 hy
        subst e
        exact absurd he.symm (hl' x hx)
       have hmi:minus (Amb M O0 s1) ks K=some o:=by simp only [minus,if_neg hk];exact ho
       obtain ⟨o',ho',hwo⟩ : ∃o',OP K=some o' ∧ ∀l q,walk w' o'.c l q=walk w' o.c l q:=by
        rw [(p3 K hl').1,(w3 K hk).1,hret.oa]
        cases hfz:froz with
        | false=>exact ⟨o,by simpa using hmi,fun _ _=>rfl⟩
        | true=>
          obtain ⟨o',a1,_,a3⟩:=hfw hfz K o hmi
          exact ⟨o',by simpa using a1,a3 w'⟩
       refine ⟨o',ho',rfl,fun _=>hhd,fun q _ l hw => ?_⟩
       obtain ⟨e1,e2⟩:=walk_same (w':=w') q _ o.c c f0 (R K) (.inl ⟨f0,fun _=>Nat.le_refl _,t1⟩) t2 t3 (fun b hb=>hs b (hb.imp (fun h=>Nat.lt_of_lt_of_le h (t4 b)) id)) (fun b q hbq=>hs b (.inl (t5 b q hbq)))
       rw [←hoc2] at hw
       exact ⟨by rw [hwo,e1];exact hw,e2 l hw⟩
 · have ho1 : ∃o1,lk s1.objs K=some o1∨K∈ks ∨ ∃x∈lent,x.1=K:=by
    by_cases hk:K∈ks
    · exact ⟨o,.inr (.inl hk)⟩
    · by_cases hl : ∃x∈lent,x.1=K
      · exact ⟨o,.inr (.inr hl)⟩
      · have hB:lk sB.objs K=lk s1.objs K:=hkeep1 K hk fun x hx he=>hl ⟨x,hx,he.symm⟩
        cases hs:lk s1.objs K with
        | some o1=>exact ⟨o1,.inl rfl⟩
        | none=>
          exfalso
          rw [hs] at hB
          cases froz with
          | false=>simp only [cond_false] at ho;rw [hB] at ho;simp at ho
          | true=>
            simp only [cond_true] at ho
            rw [(freeze_at rf sB K).1,frzO_none rf _ K hB] at ho
            simp at ho
   obtain ⟨o1,h|h|⟨x,hx,rfl⟩⟩:=ho1
   · obtain ⟨u,hu,_⟩:=hm.old K o1 h
     exact ⟨hm.seen K o1 h,u,hu⟩
   · obtain ⟨i,hi⟩:=List.getElem?_of_mem h
     obtain ⟨o2,_,g2,_⟩:=(objsOf_spec ks os hos).2 i K hi
     obtain ⟨u,hu,_⟩:=hm.old K o2 g2
     exact ⟨hksM K h,u,hu⟩
   · obtain ⟨j,hj⟩:=List.getElem?_of_mem hx
     obtain ⟨_,_,_,_,_,_,_,_,_,u,_,hu,_⟩:=lentH_at hlent j x.1 x.2 hj
     exact ⟨hlM x hx,u,hu⟩
end
end Go.VK
namespace Go.VK
open AVal
def dstB (nt:Nat) (o:Oper):Bool:=match o.dst with|some d=>Nat.blt d nt|none=>true
def codeB (nt:Nat):Code→Bool
 | .region _ ops _=>ops.toList.all (dstB nt)
 | .seq a b=>codeB nt a&&codeB nt b
 | .cond _ a b=>codeB nt a&&codeB nt b
 | .block _ a=>codeB nt a
 | .loop a=>codeB nt a
 | .scope a=>codeB nt a
 | _=>true
structure FnF (P:Program) (f:Nat) (fn:FnI):Prop where
 it : ∃g:Func,P.funcs[f]? = some g∧g.body=some fn.body∧(g.name == "runtime.NumGoroutine")=false∧g.results=fn.res.toArray∧g.ntmps=fn.nt∧codeB fn.nt fn.body=true∧fn.res.length≤4
def FnsOK (P:Program) (Φ:Ctx):Prop := ∀f fn,lk Φ.fns f=some fn→FnF P f fn
section
variable {P:Program} {Φ:Ctx} {C:Oracle} {w w':World} {fz fz1 fz2 al fzN:Nat→Prop} {s s1 p:St} {a:Act} {O0:OM} {R:RM} {M:List Nat} {F:Nat→Foot}
theorem call_enter {o:Oper} {c:Call} {fo:Operand} {f:Nat} {g:Func} {code:Code} {caps:Array Value} (ho:o.op=.call c) (hc:c.callee=.value fo) {fst:Array Value} (hf:a.eval fo=.func (.func f) fst caps) (hg:P.funcs[f]? = some g) (hb:g.body=some code) (hn:(g.name == "runtime.NumGoroutine")=false) :
 (execOp a.eval o).run P w=.ok (.enter f (fst++(c.args.map a.eval)++caps)) w:=by
 simp only [execOp,ho,resolve,hc,hf,Sem.run_bind,Sem.run_pure,Result.andThen_ok,Deferred.ofValue,invoke,callFunc,run_program,hg,hn,hb]
 simp
theorem evPs_evL : ∀{cs:List AVal} {vs:List Value},EvPs w O0 R cs vs→EvL w fz O0 R cs vs
 | [],vs,h=>by simpa only [EvPs,EvL] using h
 | c::cs,vs,h=>by
   simp only [EvPs] at h
   obtain ⟨v,r,h1,h2,h3⟩:=h
   simp only [EvL]
   refine ⟨v,r,h1,?_,evPs_evL h3⟩
   cases c <;> simp only [EvP] at h2 <;> simp only [EvV,EvR,EvP]
   · exact h2
   · exact h2
   · exact h2
theorem EvL.append : ∀{xs ys:List AVal} {vs ws:List Value},EvL w fz O0 R xs vs→EvL w fz O0 R ys ws→EvL w fz O0 R (xs++ys) (vs++ws)
 | [],ys,vs,ws,h,k=>by simp only [EvL] at h;subst h;exact k
 | x::xs,ys,vs,ws,h,k=>by
   simp only [EvL] at h
   obtain ⟨v,r,rfl,h1,h2⟩:=h
   simp only [List.cons_append,EvL]
   exact ⟨v,_,rfl,h1,h2.append k⟩
theorem lentIn_keys : ∀{cs:List AVal} {z:Nat×List Nat},z∈lentIn cs→z.1∈keysL cs
 | [],z,h=>by simp [lentIn] at h
 | c::cs,z,h=>by
   cases c <;> simp only [lentIn] at h
   case ref K q=>
    rcases List.mem_cons.1 h with rfl|h
    · simp [keysL,AVal.keys]
    · simp [keysL,lentIn_keys h]
   all_goals simp [keysL,lentIn_keys h]
theorem lentOf_keys {muts:List Nat} : ∀{xs:List AVal} {i:Nat} {z:Nat×List Nat},z∈lentOf muts i xs→z.1∈keysL xs
 | [],i,z,h=>by simp [lentOf] at h
 | x::xs,i,z,h=>by
   cases x <;> simp only [lentOf,Bool.cond_eq_ite] at h
   case ref K q=>
    split at h
    · rcases List.mem_cons.1 h with rfl|h
      · simp [keysL,AVal.keys]
      · simp [keysL,lentOf_keys h]
    · simp [keysL,lentOf_keys h]
   case agg cs=>
    split at h
    · rcases List.mem_append.1 h with h|h
      · have:=lentIn_keys h;simp [keysL,AVal.keys,this]
      · simp [keysL,lentOf_keys h]
    · simp [keysL,lentOf_keys h]
   all_goals simp [keysL,lentOf_keys h]
theorem lendsL_spec : ∀{cs:List AVal},lendsAny.lendsL s cs=false → ∀z∈lentIn cs,∃o,s.obj z.1=some o∧hasOwn (o.c.get z.2)=false
 | [],_,z,hz=>by simp [lentIn] at hz
 | c::cs,h,z,hz=>by
   simp only [lendsAny.lendsL,Bool.or_eq_false_iff] at h
   cases c <;> simp only [lentIn] at hz
   case ref K q=>
    rcases List.mem_cons.1 hz with rfl|hz
    · have:=h.1
      simp only [lends1] at this
      cases ho:s.obj K with
      | none=>rw [ho] at this;simp at this
      | some o=>rw [ho] at this;exact ⟨o,by first|rfl|exact ho,this⟩
    · exact lendsL_spec h.2 z hz
   all_goals exact lendsL_spec h.2 z hz
theorem lendsAny_spec : ∀{xs:List AVal},lendsAny s xs=false → ∀z∈refsIn xs,∃o,s.obj z.1=some o∧hasOwn (o.c.get z.2)=false
 | [],_,z,hz=>by simp [refsIn] at hz
 | x::xs,h,z,hz=>by
   cases x <;> simp only [lendsAny,Bool.or_eq_false_iff] at h <;> simp only [refsIn] at hz
   case ref K q=>
    rcases List.mem_cons.1 hz with rfl|hz
    · have:=h.1
      simp only [lends1] at this
      cases ho:s.obj K with
      | none=>rw [ho] at this;simp at this
      | some o=>rw [ho] at this;exact ⟨o,by first|rfl|exact ho,this⟩
    · exact lendsAny_spec h.2 z hz
   case agg cs=>
    rcases List.mem_append.1 hz with hz|hz
    · exact lendsL_spec h.1 z hz
    · exact lendsAny_spec h.2 z hz
   all_goals exact lendsAny_spec h.2 z hz
theorem ro_of_noOwn {x:AVal} (h:isSl x=true) (hn:hasOwn x=false):roQ x=true:=by cases x <;> simp [isSl] at h <;> simp [hasOwn] at hn;rfl
theorem callee_spec (hr:Rel w fz al s.env a.tmps s.obj R F) (hp:Sub p s) (hM : ∀t v,lk p.env t=some v → ∀K∈v.keys,K∈M) {c:Call} {f:Nat} {ts:List Nat} {xs:List AVal} (h:callee Φ p c=some (f,ts,xs)) :
 ∃fo fst caps,c.callee=.value fo∧a.eval fo=.func (.func f) fst caps∧EvL w fz s.obj R xs (fst++(c.args.map a.eval)++caps).toList ∧ ∀K∈keysL xs,K∈M:=by
 unfold callee at h
 split at h
 · rename_i fo hc
   split at h
   · rename_i fi caps vs hf hvs
     have e1:=ev_ok hr hp hf
     have e2:=evs_ok hr hp hvs
     simp only [EvV,EvR] at e1
     obtain ⟨cv,h1,h2⟩:=e1
     have k1:=ev_keys hM hf
     have k2 : ∀{ts:List Nat} {xs:List Operand} {vs:List AVal},evs Φ p ts xs=some vs → ∀K∈keysL vs,K∈M:=by
      intro ts xs
      induction xs generalizing ts with
      | nil=>intro vs h;simp only [evs,Option.some.injEq] at h;subst h;intro K hK;simp [keysL] at hK
      | cons x xs ih=>
        intro vs h
        cases ts with
        | nil=>simp [evs] at h
        | cons t ts=>
          simp only [evs] at h
          cases h1:p.ev Φ t x with
          | none=>rw [h1] at h;simp at h
          | some v=>
            cases h2:evs Φ p ts xs with
            | none=>rw [h1,h2] at h;simp at h
            | some us=>
              rw [h1,h2] at h
              simp only [Option.some.injEq] at h;subst h
              intro K hK
              simp only [keysL,List.mem_append] at hK
              exact hK.elim (ev_keys hM h1 K) (ih h2 K)
     have kapp : ∀(A B:List AVal),keysL (A++B)=keysL A++keysL B:=by
      intro A B
      induction A with
      | nil=>rfl
      | cons x A ih=>simp [keysL,ih]
     have kc : ∀K∈keysL caps,K∈M:=fun K hK=>k1 K (by simpa [AVal.keys] using hK)
     cases hb:Nat.ble bndBase fi with
     | true=>
       rw [hb] at h
       simp only [cond_true,Option.some.injEq,Prod.mk.injEq] at h
       obtain ⟨rfl,_,rfl⟩:=h
       refine ⟨fo,cv,#[],hc,by rw [h1];unfold cloV;rw [hb];rfl,?_,?_⟩
       · simp only [Array.toList_append,Array.toList_map,Array.append_empty]
         exact (evPs_evL h2).append e2
       · rw [kapp]
         intro K hK
         exact (List.mem_append.1 hK).elim (kc K) (k2 hvs K)
     | false=>
       rw [hb] at h
       simp only [cond_false,Option.some.injEq,Prod.mk.injEq] at h
       obtain ⟨rfl,_,rfl⟩:=h
       refine ⟨fo,#[],cv,hc,by rw [h1];unfold cloV;rw [hb];rfl,?_,?_⟩
       · simp only [Array.toList_append,Array.toList_map,Array.empty_append]
         exact e2.append (evPs_evL h2)
       · rw [kapp]
         intro K hK
         exact (List.mem_append.1 hK).elim (k2 hvs K) (kc K)
   · simp at h
 · simp at h
end
theorem normLent_ok : ∀{zs:List Nat} {os:List VObj},(normLent zs os).1=true→(normLent zs os).2=os
 | _,[],_=>by unfold normLent;rfl
 | [],o::os,h=>by simp [normLent] at h
 | sz::zs,o::os,h=>by
   cases hm:Nat.beq sz 0 with
   | true=>
     simp only [normLent,hm,cond_true,Bool.and_eq_true] at h ⊢
     rw [normLent_ok h.2]
   | false=>
     simp only [normLent,hm,cond_false,Bool.and_eq_true] at h ⊢
     rw [normLent_ok h.2]
     obtain ⟨b,c⟩:=o
     have:AVal.own sz c.elems=c:=by
      have h1:=h.1
      cases c <;> simp [CT.shOwn] at h1
      subst h1;rfl
     simp only [this]
theorem objsOf_len {s:St} {ka:List Nat} : ∀{ks:List Nat} {os:List VObj},objsOf s ka ks=some os→os.length=ks.length
 | [],os,h=>by simp only [objsOf,Option.some.injEq] at h;subst h;rfl
 | K::ks,os,h=>by
   simp only [objsOf,Bool.cond_eq_ite] at h
   split at h
   · rename_i o os' h1 h2
     split at h
     · simp only [Option.some.injEq] at h
       subst h
       simp [objsOf_len h2]
     · cases h
   · cases h
theorem vsend0_objs {Φ:Ctx} {s:St} {c:Call} {x:Sent} (h:vsend0 Φ s c=some x) : ∃os,x.objs=os++x.olds∧os.length=x.ks.length:=by
 unfold vsend0 at h
 split at h
 · cases h
 · split at h
   · cases h
   · dsimp only at h
     split at h
     · cases h
     · split at h
       · rename_i os h2
         simp only [Option.some.injEq] at h
         subst h
         exact ⟨_,rfl,objsOf_len h2⟩
       · cases h
theorem vsend_old {Φ:Ctx} {s:St} {c:Call} {x:Sent} (h:vsendL Φ s c=some x) (hc:x.cond=true):vsend0 Φ s c=some x:=by
 unfold vsendL at h
 cases h0:vsend0 Φ s c with
 | none=>rw [h0] at h;cases h
 | some y=>
   rw [h0] at h
   dsimp only at h
   split at h
   · simp only [Option.some.injEq] at h
     subst h
     simp only [Sent.norm,Bool.and_eq_true] at hc
     obtain ⟨os,e1,e2⟩:=vsend0_objs h0
     have e3:=normLent_ok hc.2
     obtain ⟨fn,f,cond,args,ks,lent,objs,olds,st,lends,rf⟩:=y
     dsimp only at e1 e2 e3 hc
     simp only [Sent.norm,e3,e1,hc.1,hc.2,Bool.and_self,←e2,List.take_left]
   · cases h
end Go.VK
