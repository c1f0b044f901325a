/- What strings.Builder's methods do to a text that is being put together; under Go's own limit of a text's length. -/
import Derived.Test.YtnbpmjfemeeecaaVmd
import Derived.Lib.Builder
import Derived.Lib.AppendStr
import Derived.Lib.UnsafeStr
import Derived.Lib.LaidTab
import Derived.Lib.AppendIntMem
import Derived.Lib.Walk
import Derived.WalkKit
import Derived.Laws.Externs
import Derived.Deep.AppendSrc
namespace Go.VK
open AVal Go.RowKit Go.Sort
set_option linter.unusedVariables false
section
variable {P:Program} {w w' w2:World} {S:Nat→Prop}
structure Only (w w':World) (S:Nat→Prop):Prop where
 os:w'.os=w.os
 tape:w'.tape=w.tape
 output:w'.output=w.output
 size:w.heap.size≤w'.heap.size
 block : ∀b,b<w.heap.size → ¬S b→w'.heap[b]?=w.heap[b]?
theorem Only.refl (w:World) (S:Nat→Prop):Only w w S:=⟨rfl,rfl,rfl,Nat.le_refl _,fun _ _ _=>rfl⟩
theorem Only.setCell (h:Only w w' S) {a:Addr} (ha:S a.block) (v:Value):Only w (w'.setCell a v) S:=
 ⟨h.os,h.tape,h.output,by simp [World.setCell];exact h.size,fun b hb hn=>(Below.heap_setCell _ _ _ _ (fun e=>hn (by rw [e];exact ha))).trans (h.block b hb hn)⟩
theorem Only.grown {row:Option Nat} (h:Only w w' S) (hg:w'.grownBy w2 row) (hr : ∀k,row=some k→S k∨w.heap.size≤k):Only w w2 S:=
 ⟨hg.os.trans h.os,hg.tape.trans h.tape,hg.output.trans h.output,Nat.le_trans h.size hg.size,fun b hb hn=>
   (hg.block b (Nat.lt_of_lt_of_le hb h.size) (fun e=>(hr b e.symm).elim hn (fun k=>by omega))).trans (h.block b hb hn)⟩
theorem Only.alloc (h:Only w w' S) (o:Obj):Only w (w'.alloc o) S:=
 h.grown (World.grownBy_alloc w' o none) (fun k hk=>by cases hk)
theorem Only.wider {S':Nat→Prop} (h:Only w w' S) (hs : ∀b,S b→S' b):Only w w' S':=⟨h.os,h.tape,h.output,h.size,fun b hb hn=>h.block b hb fun k=>hn (hs b k)⟩
structure BldW (T e b:Nat) (s:ByteArray) (p v:Value) (w:World):Prop where
 blk:w.heap[b]?=some (.cells #[p,v] T (0,0))
 own:w.ownsRow 0 e 1 v s.size (Lib.strCells s)
 ne:v.ownBlock≠some b
abbrev selfP (b:Nat):Value:=.pointer (some ⟨b,0,none⟩)
theorem BldW.at {T e b:Nat} {s:ByteArray} {p v:Value} (h:BldW T e b s p v w):Lib.BuilderAt T e 0 b p (Lib.strCells s) w:=
 ⟨Nat.zero_le _,v,h.blk,by rw [Lib.strCells_length];exact h.own,h.ne⟩
theorem BldW.put0 {T e b:Nat} {s:ByteArray} {p v:Value} (h:BldW T e b s p v w) (q:Value):BldW T e b s q v (w.setCell ⟨b,0,none⟩ q):=by
 refine ⟨by simp [World.setCell,Array.getElem?_modify,h.blk],?_,h.ne⟩
 exact h.own.kept (row:=some b) ⟨rfl,rfl,rfl,by simp [World.setCell],fun k _ hk=>Below.heap_setCell _ _ _ _ (fun e=>hk (by simp [e]))⟩ (.inr h.ne)
theorem BldW.put1 {T e b:Nat} {s:ByteArray} {p v v':Value} (hb:w.heap[b]?=some (.cells #[p,v] T (0,0))) (ho:w.ownsRow 0 e 1 v' s.size (Lib.strCells s)) (hn:v'.ownBlock≠some b):BldW T e b s p v' (w.setCell ⟨b,1,none⟩ v'):=by
 refine ⟨by simp [World.setCell,Array.getElem?_modify,hb],?_,hn⟩
 exact ho.kept (row:=some b) ⟨rfl,rfl,rfl,by simp [World.setCell],fun k _ hk=>Below.heap_setCell _ _ _ _ (fun e=>hk (by simp [e]))⟩ (.inr hn)
theorem strCells_append (s z:ByteArray):Lib.strCells (s++z)=Lib.strCells s++Lib.strCells z:=by
 unfold Lib.strCells
 rw [ByteArray.data_append,Array.toList_append,List.map_append]
theorem app_own {t tx ty e:TypeId} {i:TypeInfo} (ht:P.underlying t=some (.slice e)) (hi:P.info? e=some i) (hz:i.zero=some (.int .u8 0)) (hsz:i.size=1) (hby:i.bytes=1) {v x:Value} {n m:Nat} {xs news:List Value}
 (hown:w.ownsRow 0 e 1 v n xs) (hs:Src P 1 tx x m news w) (hfit:n+m≤140737488355328) :
 ∃v' w',(Builtin.append_ #[t,tx] ty #[v,x]).run P w=.ok v' w'∧w'.ownsRow 0 e 1 v' (n+m) (xs++news)∧w.grownBy w' v.ownBlock∧(v'.ownBlock=v.ownBlock∨v'.ownBlock=some w.heap.size):=by
 have hxl:xs.length=n:=by simpa using hown.1
 have hnl:news.length=m:=by simpa using hs.newsLen
 have hlen:(xs++news).length=(n+m)*1:=by rw [List.length_append,hxl,hnl,Nat.mul_one]
 have hs':Src P i.size tx x m news w:=by rw [hsz];exact hs
 have grown : ∀(ao:Option Addr) (old:Nat),v=.slice ao n old→old<n+m→(Builtin.firstCells i.size n (.slice ao n old)).run P w.drew=.ok xs.toArray w.drew →
  ∃v' w',(Builtin.append_ #[t,tx] ty #[v,x]).run P w=.ok v' w'∧w'.ownsRow 0 e 1 v' (n+m) (xs++news)∧w.grownBy w' v.ownBlock∧(v'.ownBlock=v.ownBlock∨v'.ownBlock=some w.heap.size):=by
  intro ao old hv ho hold
  subst hv
  have hge:=grownCap_ge w (n+m) old e
  have hcm:grownCap w (n+m) old e≤maxLen:=grownCap_le_maxLen w (n+m) old e (by unfold maxLen;omega)
  have hfit2:Builtin.nextslicecap (n+m) old*i.bytes≤281474976710656:=by
   have h3:=nextslicecap_le ho
   rw [hby];omega
  refine ⟨_,_,run_append_grow_src w t tx ty e i (.int .u8 0) ht hi hz ao n old xs hold x m news hs' ho (by omega) hfit2,?_,⟨rfl,rfl,rfl,by simp,fun k hk _=>heap_alloc_old w.drew _ hk⟩,.inr rfl⟩
  refine ⟨hlen,.inr ⟨w.heap.size,_,_,rfl,Nat.zero_le _,heap_alloc_new w.drew _,hge,hcm,?_,?_⟩⟩
  · have hz1:(Value.int IntKind.u8 0).cells.size=1:=rfl
    simp only [Array.size_append,List.size_toArray,size_zeroCells,hz1,hlen]
    omega
  · simp only [Array.toList_append]
    rw [←hlen]
    exact List.take_left
 rcases hown.2 with ⟨rfl,rfl⟩|⟨g,cap,cur,rfl,hbg,hg,hnc,hcm,hcs,htake⟩
 · have hx:xs=[]:=List.eq_nil_of_length_eq_zero hxl
   subst hx
   by_cases hm:m=0
   · subst hm
     have hn:news=[]:=List.eq_nil_of_length_eq_zero hnl
     subst hn
     exact ⟨_,_,run_append_nothing ht hi hs',World.ownsRow_nil w 0 e 1,⟨rfl,rfl,rfl,Nat.le_refl _,fun _ _ _=>rfl⟩,.inl rfl⟩
   · exact grown none 0 rfl (by omega) (by rw [hsz];exact run_firstCells_none w.drew 1 0 0 0)
 · by_cases hroom:n+m≤cap
   · have hcs':cur.size=cap:=by simpa using hcs
     have hrun:=run_append_room_src w t tx ty e i ht hi g 0 n cap x m news hs' hroom
        (fun j hj=>by rw [Lib.cell_of_heap hg,Array.getElem?_eq_getElem (by rw [hsz,hcs'];omega)];rfl) (fun j hj=>Lib.frozen_of_heap hg _)
     obtain ⟨k1,k3,k2,k4,k5,k6⟩:=set_cells news (0+n*i.size) w cur hg
     rw [setManyV_eq _ _ _ (by rw [hsz];simp;omega)] at k1
     refine ⟨_,_,hrun,⟨hlen,.inr ⟨g,cap,_,rfl,Nat.zero_le _,k1,hroom,hcm,?_,?_⟩⟩,⟨k4,k5,k6,by omega,fun k _ hk=>k3 k fun e=>hk (by simp [Value.ownBlock,e])⟩,.inl rfl⟩
     · simp only [List.size_toArray,List.length_append,List.length_take,List.length_drop,Array.length_toList,hnl,hsz]
       omega
     · have ht':cur.toList.take n=xs:=by simpa using htake
       simp only [hsz,Nat.mul_one,Nat.zero_add]
       rw [ht',←List.append_assoc,←Nat.mul_one (n+m),←hlen]
       exact List.take_left
   · refine grown _ cap rfl (by omega) ?_
     rw [hsz]
     exact run_firstCells_some w.drew 1 n ⟨g,0,none⟩ n cap xs (by simpa using hxl) (by simpa using hown.cells (g:=g) rfl)
theorem wpList_app {ops:Array Oper} {rest:List Oper} {o:Oper} {a:Act} {Q:Exit→Act→World→Prop} (hgd:o.guard=none) (sl x:Operand) {t u e:TypeId} {i:TypeInfo}
 (ho:o.op=.call { callee:=.builtin .append,args := #[sl,x],argTypes := #[t,u] }) (ht:P.underlying t=some (.slice e)) (hi:P.info? e=some i) (hz:i.zero=some (.int .u8 0)) (hsz:i.size=1) (hby:i.bytes=1)
 {v y:Value} {n m:Nat} {xs news:List Value} (hs:a.eval sl=v) (hy:a.eval x=y) (hown:w.ownsRow 0 e 1 v n xs) (hsrc:Src P 1 u y m news w) (hfit:n+m≤140737488355328)
 (h : ∀v' w',w'.ownsRow 0 e 1 v' (n+m) (xs++news)→w.grownBy w' v.ownBlock→(v'.ownBlock=v.ownBlock∨v'.ownBlock=some w.heap.size)→wpList P ops Q rest (a.put o.dst v') w'):wpList P ops Q (o::rest) a w:=by
 refine wpList_plain hgd fun K hK => ?_
 obtain ⟨v',w',hr,h2,h3,h4⟩:=app_own (ty:=o.type) ht hi hz hsz hby hown hsrc hfit
 unfold Oper.wp execOp
 simp only [ho,resolve,invoke,builtin,Sem.run_bind,Sem.run_pure,Result.andThen_ok,List.map_toArray,List.map_cons,List.map_nil,hs,hy,hr]
 exact hK _ _ (h v' w' h2 h3 h4)
def Wrote (P:Program) (T e b:Nat) (s:ByteArray) (v:Value) (w w':World):Prop:=
 ∃v',BldW T e b s (selfP b) v' w'∧Only w w' (fun k=>k=b∨v.ownBlock=some k)∧(v'.ownBlock=v.ownBlock ∨ ∀k,v'.ownBlock=some k→w.heap.size≤k)
theorem Only.frozen (h:Only w w' S) {a:Addr} (ha:S a.block) (n:Nat):Only w (w'.freeze a n) S:=by
 unfold World.freeze
 split
 · exact h
 · refine ⟨h.os,h.tape,h.output,by simp;exact h.size,fun b hb hn => ?_⟩
   rw [←h.block b hb hn]
   simp only [Array.getElem?_modify]
   rw [if_neg (fun e=>hn (by rw [←e];exact ha))]
theorem only_below (h:Below w.heap.size w w'):Only w w' S:=⟨h.os,h.tape,h.output,h.size,fun b hb _=>h.block b hb⟩
def CtrWS (P:Program) (f T e:Nat):Prop := ∀(w:World) (b:Nat) (s z:ByteArray) (p v:Value),BldW T e b s p v w→(p=.pointer none∨p=selfP b)→s.size+z.size≤140737488355328 →
 Calls P f #[selfP b,.string z] w fun e' w'=>e'=.returned (.tuple #[.int .i64 z.size,.nilIface])∧Wrote P T e b (s++z) v w w'
def CtrWB (P:Program) (f T e:Nat):Prop := ∀(w:World) (b:Nat) (s:ByteArray) (c:Int) (p v:Value),BldW T e b s p v w→(p=.pointer none∨p=selfP b)→s.size+1≤140737488355328→0≤c→c<256 →
 Calls P f #[selfP b,.int .u8 c] w fun e' w'=>e'=.returned .nilIface∧Wrote P T e b (s.push c.toNat.toUInt8) v w w'
def CtrST (P:Program) (f T e:Nat):Prop := ∀(w:World) (b:Nat) (s:ByteArray) (p v:Value),BldW T e b s p v w →
 Calls P f #[selfP b] w fun e' w'=>e'=.returned (.string s)∧Only w w' (fun k=>v.ownBlock=some k)
end
section
variable {P:Program} {Φ:Ctx} {W0 w w':World} {fz al:Nat→Prop} {R:RM} {F:Nat→Foot} {vals:List Value} {args:List AVal}
theorem objsM_one {o u:VObj} {K:Nat} (h:objsM [o] K=some u):K=passBase∧u=o:=by
 simp only [objsM,numFrom,lk,Bool.cond_eq_ite] at h
 split at h
 · rename_i hb;exact ⟨(Nat.eq_of_beq_eq_true hb).symm,(Option.some.inj h).symm⟩
 · simp at h
theorem bld_in {T e:Nat} {s:ByteArray} (hE:Entry w fz al args [{ box:=false,c:=.mp .oth (bldMk T e s) }] vals R F) :
 ∃b p v,R passBase=.val (selfP b)∧(p=.pointer none∨p=selfP b)∧BldW T e b s p v w ∧ ∀i,F passBase i=(if i=b then 1 else 0)+if v.ownBlock=some i then 1 else 0:=by
 have h:=hE.ro.obj passBase _ (objsM_at _ 0)
 unfold OwO at h;rw [if_neg (by simp)] at h
 obtain ⟨u,hR,hc,_⟩:=h
 simp only [OwC] at hc
 obtain ⟨s',T',e',b,p,v,h1,h2,h3,h4,h5,h6,h7⟩:=hc
 simp only [bldMk,List.cons.injEq,AVal.str.injEq,AVal.int.injEq,true_and,and_true] at h1 h2
 obtain ⟨rfl,rfl,rfl⟩:=h1
 subst h2
 simp only [Int.toNat_natCast] at h4 h5
 exact ⟨b,p,v,hR,h3,⟨h4,h5,h6⟩,h7⟩
theorem ref_in {objs:List VObj} {u v0:Value} (hR:R passBase=.val u) (h:EvV w fz (objsM objs) R (shift (.ref 0 [])) v0):v0=u:=by
 simp only [shift,shift1,EvV,EvR,EvP,Nat.add_zero,walk_nil,hR] at h
 obtain ⟨o,l,_,h2,h3,_⟩:=h
 obtain rfl:=Option.some.inj h2
 exact (Option.some.inj h3).symm
theorem back_bld {o0 o1:VObj} {u:Value} {f':Foot} {rs:List AVal} {rvs:List Value} (hE:Entry w fz al args [o0] vals R F) (hO:Only w w' (fun k=>0<F passBase k)) (hbox:o1.box=false) (hR:R passBase=.val u)
 (hc:OwC w' fz NoE o1.c [u] f') (hag:aggQ o1.c=false) (hk : ∀ks qs,tieV ks qs o1.c=true) (h1 : ∀i,f' i≤1) (h2 : ∀i,0<f' i→0<F passBase i∨w.heap.size≤i) (hres:HandL w' fz NoE rs rvs zf) (hp:pureRs rs=true) :
 Back w fz al [o0] R rs [o1] rvs w' fz (fun _=>f') zf:=by
 have hown : ∀b,0<F passBase b→al b ∧ ¬fz b:=hE.ro.own passBase o0 (objsM_at _ 0)
 refine ⟨⟨fun K o ho => ?_,fun K o _=>h1,fun K o J u' hn ho hu => ?_,fun K o ho b hb => ?_,fun b=>by simp [zf],fun K o _ b=>.inr rfl,fun b hb=>by simp [zf] at hb,fun b hb=>Nat.lt_of_lt_of_le (hE.ro.lt b hb) hO.size⟩,hres.toR,hp,fun _ h=>h,fun _ h=>.inl h,⟨hO.os,hO.tape,hO.output,hO.size,fun b hb hn=>hO.block b hb fun hf=>hn (hown b hf).1⟩,rfl,fun o ho => ?_⟩
 · obtain ⟨rfl,rfl⟩:=objsM_one ho
   unfold OwO;rw [if_neg (by simp [hbox])]
   exact ⟨u,hR,OwC.mono (fun b hb=>⟨hb,rfl⟩) _ NoE _ (fun _ _ _ h=>h.elim) _ _ (fun _ _=>rfl) hc,hag⟩
 · exact absurd ((objsM_one ho).1.trans (objsM_one hu).1.symm) hn
 · rcases h2 b hb with h|h
   · exact hown b h
   · exact ⟨hE.al b h,fun hf=>by have:=hE.ro.lt b hf;omega⟩
 · simp only [List.mem_singleton] at ho;rw [ho];exact hk _ _
def NatAt (W0:World) (P:Program) (Φ:Ctx) (f n:Nat):Prop := ∀args objs rs os,natF Φ n args objs=some (rs,os) → ∀w fz al vals R F,Entry w fz al args objs vals R F→GlOK W0 w al →
 Calls P f vals.toArray w fun e w' => ∃rvs fz' F' g,e=.returned (retVal rvs)∧Back w fz al objs R rs os rvs w' fz' F' g
def NatsL (W0:World) (P:Program) (Φ:Ctx):List (Nat×Nat)→Prop
 | []=>True
 | (f,n)::r=>NatAt W0 P Φ f n∧NatsL W0 P Φ r
theorem natsL_nil:NatsL W0 P Φ []:=trivial
theorem natsL_cons {f n:Nat} {r:List (Nat×Nat)} (h:NatAt W0 P Φ f n) (hr:NatsL W0 P Φ r):NatsL W0 P Φ ((f,n)::r):=⟨h,hr⟩
theorem natOK_of {l:List (Nat×Nat)} (he:Φ.nats=l) (h:NatsL W0 P Φ l):NatOK W0 P Φ:=by
 have key : ∀(l:List (Nat×Nat)),NatsL W0 P Φ l → ∀f n,lk l f=some n→NatAt W0 P Φ f n:=by
  intro l
  induction l with
  | nil=>intro _ f n hf;simp [lk] at hf
  | cons x r ih=>
    obtain ⟨g,m⟩:=x
    intro hl f n hf
    simp only [lk,Bool.cond_eq_ite] at hf
    split at hf
    · rename_i hb
      rw [←Nat.eq_of_beq_eq_true hb,←Option.some.inj hf]
      exact hl.1
    · exact ih hl.2 f n hf
 exact fun f n hf=>key l h f n (he▸hf)
theorem wrote_back {o0:VObj} {T e b:Nat} {s:ByteArray} {v:Value} {rs:List AVal} {rvs:List Value} (hE:Entry w fz al args [o0] vals R F) (hR:R passBase=.val (selfP b)) (hF : ∀i,F passBase i=(if i=b then 1 else 0)+if v.ownBlock=some i then 1 else 0)
 (hw:Wrote P T e b s v w w') (hres:HandL w' fz NoE rs rvs zf) (hp:pureRs rs=true) : ∃F',Back w fz al [o0] R rs [{ box:=false,c:=.mp .oth (bldMk T e s) }] rvs w' fz F' zf:=by
 obtain ⟨v',hB,hO,hv'⟩:=hw
 refine ⟨_,back_bld (u:=selfP b) (f':=fun i=>(if i=b then 1 else 0)+if v'.ownBlock=some i then 1 else 0) hE (hO.wider fun k hk => ?_) rfl hR ?_ rfl (fun _ _=>rfl) (fun i => ?_) (fun i hi => ?_) hres hp⟩
 · rw [hF]
   rcases hk with rfl|hk
   · rw [if_pos rfl];omega
   · rw [if_pos hk];omega
 · simp only [OwC]
   exact ⟨s,T,e,b,selfP b,v',rfl,rfl,.inr rfl,hB.blk,hB.own,hB.ne,fun i=>rfl⟩
 · by_cases hi:i=b
   · subst hi;rw [if_pos rfl,if_neg hB.ne];omega
   · rw [if_neg hi];split <;> omega
 · by_cases hib:i=b
   · left;rw [hF,if_pos hib];omega
   · rw [if_neg hib] at hi
     split at hi
     · rename_i hvi
       rcases hv' with h|h
       · left;rw [hF,←h,if_pos hvi];omega
       · exact .inr (h i hvi)
     · omega
theorem nat_writeString {f tb te:Nat} (hC:CtrWS P f tb te) (hb:Φ.bld=some (tb,te)):NatAt W0 P Φ f 1:=by
 intro args objs rs os h w fz al vals R F hE _
 unfold natF at h
 rw [hb] at h
 split at h <;> try (first|(simp at h;done)|(rename_i hh;simp at hh;done))
 · rename_i T e z xs heq _
   simp only [Option.some.injEq,Prod.mk.injEq] at heq
   obtain ⟨rfl,rfl⟩:=heq
   simp only [Bool.cond_eq_ite] at h
   split at h
   · rename_i hc
     simp only [Bool.and_eq_true,Nat.ble_eq] at hc
     simp only [Option.some.injEq,Prod.mk.injEq] at h
     obtain ⟨rfl,rfl⟩:=h
     obtain ⟨s,hxs⟩ : ∃s,xs=bldMk tb te s:=⟨_,bldQ_eq hc.1⟩
     subst hxs
     rw [bldS_mk] at hc ⊢
     obtain ⟨b,p,v,hR,hp,hB,hF⟩:=bld_in hE
     have ha:=hE.args
     simp only [List.map_cons,List.map_nil,EvL] at ha
     obtain ⟨v0,_,rfl,k1,v1,_,rfl,k2,rfl⟩:=ha
     obtain rfl:=ref_in hR k1
     simp only [shift,shift1,EvV] at k2
     subst k2
     refine (hC w b s z p v hB hp hc.2).mono ?_
     rintro e w' ⟨rfl,hw⟩
     obtain ⟨F',hback⟩:=wrote_back (rs:=[.int .i64 z.size,.und]) (rvs:=[.int .i64 z.size,.nilIface]) hE hR hF hw (by
       simp only [HandL]
       exact ⟨_,_,zf,zf,rfl,by simp [HandV,OwC,zf],⟨_,_,zf,zf,rfl,⟨⟨_,rfl,rfl⟩,fun _=>rfl⟩,⟨rfl,fun _=>rfl⟩,fun _=>rfl⟩,fun _=>rfl⟩) rfl
     exact ⟨_,fz,F',zf,rfl,hback⟩
   · simp at h
theorem nat_writeByte {f tb te:Nat} (hC:CtrWB P f tb te) (hb:Φ.bld=some (tb,te)):NatAt W0 P Φ f 2:=by
 intro args objs rs os h w fz al vals R F hE _
 unfold natF at h
 rw [hb] at h
 split at h <;> try (first|(simp at h;done)|(rename_i hh;simp at hh;done))
 · rename_i T e c xs heq _
   simp only [Option.some.injEq,Prod.mk.injEq] at heq
   obtain ⟨rfl,rfl⟩:=heq
   simp only [Bool.cond_eq_ite] at h
   split at h
   · rename_i hc
     simp only [Bool.and_eq_true,Nat.ble_eq,decide_eq_true_eq] at hc
     simp only [Option.some.injEq,Prod.mk.injEq] at h
     obtain ⟨rfl,rfl⟩:=h
     obtain ⟨s,hxs⟩ : ∃s,xs=bldMk tb te s:=⟨_,bldQ_eq hc.1⟩
     subst hxs
     rw [bldS_mk] at hc ⊢
     obtain ⟨b,p,v,hR,hp,hB,hF⟩:=bld_in hE
     have ha:=hE.args
     simp only [List.map_cons,List.map_nil,EvL] at ha
     obtain ⟨v0,_,rfl,k1,v1,_,rfl,k2,rfl⟩:=ha
     obtain rfl:=ref_in hR k1
     simp only [shift,shift1,EvV] at k2
     subst k2
     refine (hC w b s c p v hB hp hc.2.1 hc.2.2.1 hc.2.2.2).mono ?_
     rintro e w' ⟨rfl,hw⟩
     obtain ⟨F',hback⟩:=wrote_back (rs:=[.und]) (rvs:=[.nilIface]) hE hR hF hw (by
       simp only [HandL]
       exact ⟨_,_,zf,zf,rfl,⟨⟨_,rfl,rfl⟩,fun _=>rfl⟩,⟨rfl,fun _=>rfl⟩,fun _=>rfl⟩) rfl
     exact ⟨_,fz,F',zf,rfl,hback⟩
   · simp at h
theorem nat_string {f tb te:Nat} (hC:CtrST P f tb te) (hb:Φ.bld=some (tb,te)):NatAt W0 P Φ f 3:=by
 intro args objs rs os h w fz al vals R F hE _
 unfold natF at h
 rw [hb] at h
 split at h <;> try (first|(simp at h;done)|(rename_i hh;simp at hh;done))
 · rename_i T e xs heq _
   simp only [Option.some.injEq,Prod.mk.injEq] at heq
   obtain ⟨rfl,rfl⟩:=heq
   simp only [Bool.cond_eq_ite] at h
   split at h
   · rename_i hc
     simp only [Option.some.injEq,Prod.mk.injEq] at h
     obtain ⟨rfl,rfl⟩:=h
     obtain ⟨s,hxs⟩ : ∃s,xs=bldMk tb te s:=⟨_,bldQ_eq hc⟩
     subst hxs
     rw [bldS_mk]
     obtain ⟨b,p,v,hR,hp,hB,hF⟩:=bld_in hE
     have ha:=hE.args
     simp only [List.map_cons,List.map_nil,EvL] at ha
     obtain ⟨v0,_,rfl,k1,rfl⟩:=ha
     obtain rfl:=ref_in hR k1
     refine (hC w b s p v hB).mono ?_
     rintro e w' ⟨rfl,hw⟩
     refine ⟨[.string s],fz,_,zf,rfl,back_bld (u:=selfP b) (f':=zf) hE (hw.wider fun k hk=>by rw [hF,if_pos hk];omega) rfl hR ?_ rfl (fun _ _=>rfl) (fun i=>by simp [zf]) (fun i hi=>by simp [zf] at hi) ?_ rfl⟩
     · simp only [OwC];exact ⟨⟨_,rfl,rfl⟩,fun _=>rfl⟩
     · simp only [HandL]
       exact ⟨_,_,zf,zf,rfl,by simp [HandV,OwC,zf],⟨rfl,fun _=>rfl⟩,fun _=>rfl⟩
   · simp at h
theorem tab_keep {name:String} {k:IntKind} {zs:List Int} (h:Lib.TabIs P W0 name k zs) (hG:GlOK W0 w al):Lib.TabIs P w name k zs:=by
 unfold Lib.TabIs World.var? at h ⊢
 cases hg:P.globalNamed name with
 | none=>rw [hg] at h;simp at h
 | some g=>
   rw [hg] at h
   simp only [Option.bind_some] at h ⊢
   have hlt:g<W0.heap.size:=by
    rcases Nat.lt_or_ge g W0.heap.size with h'|h'
    · exact h'
    · rw [Array.getElem?_eq_none h'] at h;simp at h
   rw [(hG.it g hlt).2];exact h
def CtrIT (P:Program) (f:Nat):Prop := ∀(n:Int) (w:World),-9223372036854775808≤n→n≤9223372036854775807→Lib.TabIs P w "internal/strconv.uint64pow10" .u64 Lib.pow10Tab →
 Calls P f #[.int .i64 n] w fun e w'=>e=.returned (.string (itoaB n)) ∧ ∃k os,w'=grow (w.drewN k) os
theorem only_grow (k:Nat) (os:Array Obj) {S:Nat→Prop}:Only w (grow (w.drewN k) os) S:=
 ⟨rfl,rfl,rfl,by simp [grow],fun b hb _=>Lib.heap_grow_old w k os b hb⟩
theorem nat_itoa {f:Nat} (htab:Lib.TabIs P W0 "internal/strconv.uint64pow10" .u64 Lib.pow10Tab) (hC:CtrIT P f):NatAt W0 P Φ f 4:=by
 intro args objs rs os h w fz al vals R F hE hG
 unfold natF at h
 split at h <;> try (first|(simp at h;done)|(rename_i hh;simp at hh;done)|(rename_i hh _;simp at hh;done))
 · rename_i n _
   simp only [Bool.cond_eq_ite] at h
   split at h
   · rename_i hc
     simp only [Bool.and_eq_true,decide_eq_true_eq] at hc
     simp only [Option.some.injEq,Prod.mk.injEq] at h
     obtain ⟨rfl,rfl⟩:=h
     have ha:=hE.args
     simp only [List.map_cons,List.map_nil,EvL] at ha
     obtain ⟨v0,_,rfl,k1,rfl⟩:=ha
     simp only [shift,shift1,EvV] at k1
     subst k1
     refine (hC n w hc.1 hc.2 (tab_keep htab hG)).mono ?_
     rintro e w' ⟨rfl,k,os,rfl⟩
     have hO:Only w (grow (w.drewN k) os) (fun _=>False):=only_grow k os
     refine ⟨[.string (itoaB n)],fz,fun _=>zf,zf,rfl,⟨⟨fun K o ho=>by simp [objsM,numFrom,lk] at ho,fun K o ho=>by simp [objsM,numFrom,lk] at ho,fun K o J u _ ho=>by simp [objsM,numFrom,lk] at ho,fun K o ho=>by simp [objsM,numFrom,lk] at ho,fun b=>by simp [zf],fun K o ho=>by simp [objsM,numFrom,lk] at ho,fun b hb=>by simp [zf] at hb,fun b hb=>Nat.lt_of_lt_of_le (hE.ro.lt b hb) hO.size⟩,?_,rfl,fun _ h=>h,fun _ h=>.inl h,⟨hO.os,hO.tape,hO.output,hO.size,fun b hb _=>hO.block b hb id⟩,rfl,fun o ho=>by simp at ho⟩⟩
     exact HandL.toR (by simp only [HandL];exact ⟨_,_,zf,zf,rfl,by simp [HandV,OwC,zf],⟨rfl,fun _=>rfl⟩,fun _=>rfl⟩)
   · simp at h
end
end Go.VK
