/- Plain rules: tables, closures, and which symbols lead where; plain lists and numbers. -/
import Derived.Test.YtgoaegbddpmiiaaBo
namespace Go.Proofs.Ytgoaegbddpmiiaa
open Go.VK AVal
theorem loop_inv {S T:Type} (L:Nat→S→Option T) (n:Nat) (Inv:Nat→S→Prop) (Q:T→Prop) (hend : ∀s,Inv n s → ∃t,L n s=some t∧Q t)
 (hstep : ∀i,i<n → ∀s,Inv i s → ∃s',Inv (i+1) s' ∧ ∀y,L (i+1) s'=some y→L i s=some y) :
 ∀m i,i+m=n → ∀s,Inv i s → ∃t,L i s=some t∧Q t
 | 0,i,h,s,hs=>by
   obtain rfl:i=n:=by omega
   exact hend s hs
 | m+1,i,h,s,hs=>by
   obtain ⟨s',h1,h2⟩:=hstep i (by omega) s hs
   obtain ⟨t,h3,h4⟩:=loop_inv L n Inv Q hend hstep m (i+1) (by omega) s' h1
   exact ⟨t,h2 t h3,h4⟩
theorem loop_meas {S T:Type} (L:S→Option T) (Inv:S→Prop) (Q:T→Prop) (μ:S→Nat)
 (hstep : ∀s,Inv s→(∃t,L s=some t∧Q t) ∨ ∃s',Inv s'∧μ s'<μ s ∧ ∀y,L s'=some y→L s=some y) :
 ∀k s,μ s<k→Inv s → ∃t,L s=some t∧Q t
 | 0,s,h,_=>by omega
 | k+1,s,h,hs=>by
   rcases hstep s hs with h1|⟨s',h1,h2,h3⟩
   · exact h1
   · obtain ⟨t,h4,h5⟩:=loop_meas L Inv Q μ hstep k s' (by omega) h1
     exact ⟨t,h3 t h4,h5⟩
def tbl (n:Nat) (g:Nat→AVal):List AVal:=(List.range n).map g
def upd {α:Type} (f:Nat→α) (i:Nat) (v:α):Nat→α:=fun j=>if j=i then v else f j
theorem upd_at {α:Type} (f:Nat→α) (i:Nat) (v:α):upd f i v i=v:=by simp [upd]
theorem upd_ne {α:Type} (f:Nat→α) {i j:Nat} (v:α) (h:j≠i):upd f i v j=f j:=by simp [upd,h]
theorem tbl_len (n:Nat) (g:Nat→AVal):(tbl n g).length=n:=by simp [tbl]
theorem tbl_get {n i:Nat} (g:Nat→AVal) (h:i<n):(tbl n g).getD i .und=g i:=by simp [tbl,List.getD_eq_getElem?_getD,h]
theorem tbl_set {n:Nat} (g:Nat→AVal) (i:Nat) (v:AVal):(tbl n g).set i v=tbl n (upd g i v):=by
 apply List.ext_getElem?
 intro q
 by_cases hq:q<n
 · by_cases h:i=q
   · subst h;simp [tbl,hq,upd]
   · rw [List.getElem?_set_ne h]
     have h2 : ¬q=i:=fun e=>h e.symm
     simp [tbl,hq,upd,h2]
 · simp [tbl,hq]
theorem tbl_rep (n:Nat) (v:AVal):List.replicate n v=tbl n fun _=>v:=by
 apply List.ext_getElem?
 intro q
 by_cases hq:q<n <;> simp [tbl,hq]
theorem tbl_congr {n:Nat} {g k:Nat→AVal} (h : ∀i,i<n→g i=k i):tbl n g=tbl n k:=
 List.map_congr_left fun i hi=>h i (List.mem_range.1 hi)
theorem tbl_ro (n:Nat) (g:Nat→AVal):asRoL (tbl n g)=tbl n fun i=>asRo (g i):=asRoL_map2 (f:=g) (fun _=>rfl) _
theorem tbl_noRo {n:Nat} {g:Nat→AVal} (h : ∀i,noRo (g i)=true):noRoL (tbl n g)=true:=noRoL_map h _
def rB (n:Nat) (f:Nat→Bool):List AVal:=tbl n fun i=>.bool (f i)
def rI (n:Nat) (f:Nat→Int):List AVal:=tbl n fun i=>.int .i64 (f i)
def mB (n m:Nat) (T:Nat→Nat→Bool):List AVal:=tbl n fun i=>.own 1 (rB m (T i))
theorem rB_len (n:Nat) (f:Nat→Bool):(rB n f).length=n:=tbl_len _ _
theorem rI_len (n:Nat) (f:Nat→Int):(rI n f).length=n:=tbl_len _ _
theorem mB_len (n m:Nat) (T:Nat→Nat→Bool):(mB n m T).length=n:=tbl_len _ _
theorem rB_get {n i:Nat} (f:Nat→Bool) (h:i<n):(rB n f).getD i .und=.bool (f i):=tbl_get _ h
theorem rI_get {n i:Nat} (f:Nat→Int) (h:i<n):(rI n f).getD i .und=.int .i64 (f i):=tbl_get _ h
theorem mB_get {n m i:Nat} (T:Nat→Nat→Bool) (h:i<n):(mB n m T).getD i .und=.own 1 (rB m (T i)):=tbl_get _ h
theorem rB_set {n:Nat} (f:Nat→Bool) (i:Nat) (b:Bool):(rB n f).set i (.bool b)=rB n (upd f i b):=by
 unfold rB;rw [tbl_set];congr 1;funext j;unfold upd;split <;> rfl
theorem rI_set {n:Nat} (f:Nat→Int) (i:Nat) (b:Int):(rI n f).set i (.int .i64 b)=rI n (upd f i b):=by
 unfold rI;rw [tbl_set];congr 1;funext j;unfold upd;split <;> rfl
theorem mB_set {n m:Nat} (T:Nat→Nat→Bool) (i:Nat) (f:Nat→Bool):(mB n m T).set i (.own 1 (rB m f))=mB n m (upd T i f):=by
 unfold mB;rw [tbl_set];congr 1;funext j;unfold upd;split <;> rfl
theorem rB_congr {n:Nat} {f g:Nat→Bool} (h : ∀i,i<n→f i=g i):rB n f=rB n g:=tbl_congr fun i hi=>by rw [h i hi]
theorem mB_congr {n m:Nat} {T U:Nat→Nat→Bool} (h : ∀i,i<n → ∀j,j<m→T i j=U i j):mB n m T=mB n m U:=tbl_congr fun i hi=>by rw [rB_congr (h i hi)]
theorem rB_ro (n:Nat) (f:Nat→Bool):asRoL (rB n f)=rB n f:=by unfold rB;rw [tbl_ro];rfl
theorem rI_ro (n:Nat) (f:Nat→Int):asRoL (rI n f)=rI n f:=by unfold rI;rw [tbl_ro];rfl
theorem rB_noRo (n:Nat) (f:Nat→Bool):noRoL (rB n f)=true:=tbl_noRo fun _=>rfl
theorem sh_bool (b:Bool):CT.shape .bool (.bool b)=true:=rfl
theorem sh_int (n:Int):CT.shape (.int .i64) (.int .i64 n)=true:=rfl
theorem to_bool (b:Bool):(AVal.bool b).toBool=b:=rfl
theorem to_int (n:Int):(AVal.int .i64 n).toInt=n:=rfl
theorem ag_bool (b:Bool):aggQ (.bool b)=false:=rfl
theorem ag_int (n:Int):aggQ (.int .i64 n)=false:=rfl
theorem ag_own (xs:List AVal):aggQ (.own 1 xs)=false:=rfl
theorem sh_own (xs:List AVal):CT.shape (.slice 1) (.own 1 xs)=true:=rfl
theorem sho_own (xs:List AVal):CT.shOwn (.slice 1) (.own 1 xs)=true:=rfl
theorem sh_ro (b:Bool) (z:Nat) (xs:List AVal):CT.shape (.slice z) (.ro b z xs)=true:=by simp [CT.shape]
theorem el_own (xs:List AVal):(AVal.own 1 xs).elems=xs:=rfl
theorem el_ro (b:Bool) (z:Nat) (xs:List AVal):(AVal.ro b z xs).elems=xs:=rfl
theorem own_okg (xs:List AVal) (i:Nat):(AVal.own 1 xs).okg [i]=Nat.blt i xs.length:=by simp only [AVal.okg,Bool.and_true]
theorem own_okp (xs:List AVal) (i:Nat):(AVal.own 1 xs).okp [i]=Nat.blt i xs.length:=by simp only [AVal.okp,Bool.and_true]
theorem get_nil (v:AVal):v.get []=v:=by cases v <;> rfl
theorem put_nil (v y:AVal):v.put [] y=y:=by cases v <;> rfl
theorem own_get (xs:List AVal) (i:Nat):(AVal.own 1 xs).get [i]=xs.getD i .und:=by simp only [AVal.get,get_nil]
theorem own_put (xs:List AVal) (i:Nat) (v:AVal):(AVal.own 1 xs).put [i] v=.own 1 (xs.set i v):=by simp only [AVal.put,put_nil]
inductive Rch (S:Nat→Nat→Prop):Nat→Nat→Prop
 | one {a b:Nat}:S a b→Rch S a b
 | more {a b c:Nat}:Rch S a b→S b c→Rch S a c
theorem Rch.trans {S:Nat→Nat→Prop} {a b c:Nat} (h:Rch S a b) (k:Rch S b c):Rch S a c:=by
 induction k with
 | one h2=>exact .more h h2
 | more _ h2 ih=>exact .more ih h2
theorem Rch.lt {S:Nat→Nat→Prop} {n:Nat} (hS : ∀a b,S a b→a<n∧b<n) {a b:Nat} (h:Rch S a b):a<n∧b<n:=by
 induction h with
 | one h=>exact hS _ _ h
 | more _ h ih=>exact ⟨ih.1,(hS _ _ h).2⟩
structure War (S:Nat→Nat→Prop) (n k:Nat) (T:Nat→Nat→Bool):Prop where
 base : ∀i j,S i j→T i j=true
 snd : ∀i j,i<n→j<n→T i j=true→Rch S i j
 tr : ∀m,m<k → ∀i j,i<n→j<n→T i m=true→T m j=true→T i j=true
theorem War.step {S:Nat→Nat→Prop} {n k:Nat} {T:Nat→Nat→Bool} (h:War S n k T) (hk:k<n):War S n (k+1) fun i j=>T i j||(T i k&&T k j):=by
 refine ⟨fun i j hS=>by simp [h.base i j hS],fun i j hi hj hT => ?_,fun m hm i j hi hj h1 h2 => ?_⟩
 · simp only [Bool.or_eq_true,Bool.and_eq_true] at hT
   rcases hT with hT|⟨h1,h2⟩
   · exact h.snd i j hi hj hT
   · exact (h.snd i k hi hk h1).trans (h.snd k j hk hj h2)
 · simp only [Bool.or_eq_true,Bool.and_eq_true] at h1 h2 ⊢
   by_cases hmk:m=k
   · subst hmk
     refine .inr ⟨h1.elim id fun h=>h.1,h2.elim id fun h=>h.2⟩
   · have hm2:m<k:=by omega
     rcases h1 with h1|⟨a1,a2⟩ <;> rcases h2 with h2|⟨b1,b2⟩
     · exact .inl (h.tr m hm2 i j hi hj h1 h2)
     · exact .inr ⟨h.tr m hm2 i k hi hk h1 b1,b2⟩
     · exact .inr ⟨a1,h.tr m hm2 k j hk hj a2 h2⟩
     · exact .inr ⟨a1,b2⟩
theorem War.all {S:Nat→Nat→Prop} {n:Nat} {T:Nat→Nat→Bool} (hS : ∀a b,S a b→a<n∧b<n) (h:War S n n T) {i j:Nat} (hi:i<n) (hj:j<n):T i j=true↔Rch S i j:=by
 refine ⟨h.snd i j hi hj,fun hR => ?_⟩
 induction hR with
 | one h1=>exact h.base _ _ h1
 | more h1 h2 ih=>
   have hb:=hS _ _ h2
   exact h.tr _ hb.1 _ _ hi hj (ih hb.1) (h.base _ _ h2)
def ph (T:Nat→Nat→Bool) (k i j:Nat):Nat→Nat→Bool:=fun a b=>T a b||((decide (a<i)||(decide (a=i)&&decide (b<j)))&&(T a k&&T k b))
theorem ph_k (T:Nat→Nat→Bool) (k i j a:Nat):ph T k i j a k=T a k:=by
 unfold ph;cases T a k <;> simp
theorem ph_kr (T:Nat→Nat→Bool) (k i j b:Nat):ph T k i j k b=T k b:=by
 unfold ph;cases T k b <;> simp
theorem ph_step {T:Nat→Nat→Bool} {k i:Nat} (h:T i k=true) (j:Nat):upd (ph T k i j) i (upd (ph T k i j i) j (ph T k i j i j||T k j))=ph T k i (j+1):=by
 funext a b
 by_cases ha:a=i
 · subst ha
   rw [upd_at]
   by_cases hb:b=j
   · subst hb
     rw [upd_at]
     unfold ph
     rw [h]
     have e1:decide (b<b+1)=true:=decide_eq_true (by omega)
     have e2:decide (b<b)=false:=decide_eq_false (by omega)
     have e3:decide (a<a)=false:=decide_eq_false (by omega)
     rw [e1,e2,e3]
     simp
   · rw [upd_ne _ _ hb]
     unfold ph
     have e:decide (b<j+1)=decide (b<j):=by rw [decide_eq_decide];omega
     rw [e]
 · rw [upd_ne _ _ ha]
   unfold ph
   have e:decide (a=i)=false:=decide_eq_false ha
   rw [e];simp
theorem ph_row {T:Nat→Nat→Bool} {k i n a b:Nat} (hb:b<n):ph T k i n a b=ph T k (i+1) 0 a b:=by
 unfold ph
 have e:(decide (a<i)||(decide (a=i)&&decide (b<n)))=(decide (a<i+1)||(decide (a=i+1)&&decide (b<0))):=by
  rw [decide_eq_true hb,show decide (b<0)=false from rfl,Bool.and_true,Bool.and_false,Bool.or_false,Bool.eq_iff_iff]
  simp only [Bool.or_eq_true,decide_eq_true_eq]
  omega
 rw [e]
theorem ph_skip {T:Nat→Nat→Bool} {k i:Nat} (h:T i k=false) (j a b:Nat):ph T k i j a b=ph T k (i+1) 0 a b:=by
 unfold ph
 by_cases ha:a=i
 · subst ha;rw [h];simp
 · have e:(decide (a<i)||(decide (a=i)&&decide (b<j)))=(decide (a<i+1)||(decide (a=i+1)&&decide (b<0))):=by
    rw [decide_eq_false ha,show decide (b<0)=false from rfl,Bool.false_and,Bool.and_false,Bool.or_false,Bool.or_false,decide_eq_decide]
    omega
   rw [e]
theorem ph_zero (T:Nat→Nat→Bool) (k:Nat):ph T k 0 0=T:=by
 funext a b;unfold ph;simp
theorem ph_full {T:Nat→Nat→Bool} {k n a:Nat} (ha:a<n) (b:Nat):ph T k n 0 a b=(T a b||(T a k&&T k b)):=by
 unfold ph;rw [decide_eq_true ha];simp
structure RB (nt nn:Nat) (ps:List ProdD):Prop where
 t60:nt≤60
 n1:1≤nn
 n100:nn≤100
 p120:ps.length≤120
 lf : ∀p∈ps,(nt:Int)≤p.1∧p.1<(nt:Int)+nn
 rl : ∀p∈ps,p.2.1.length≤12
 rs : ∀p∈ps,∀s∈p.2.1,0≤s∧s<(nt:Int)+nn
theorem rb_of {ts:List TermD} {ns:List ByteArray} {own:Int} {ps:List ProdD} (h:bnfQ ts ns own ps=true):RB ts.length ns.length ps:=by
 simp only [bnfQ,inQ,Bool.and_eq_true,decide_eq_true_eq,allN_iff] at h
 obtain ⟨h1,⟨h2,h3⟩,_,h4,_,_,h5⟩:=h
 have key : ∀p∈ps,prQ ts.length ns.length p=true:=fun p hp=>by
  obtain ⟨i,hi,rfl⟩:=List.mem_iff_getElem.1 hp
  have:=h5 i hi
  simpa [List.getD_eq_getElem?_getD,hi] using this
 simp only [prQ,syQ,inQ,Bool.and_eq_true,decide_eq_true_eq,allN_iff] at key
 refine ⟨h1,by omega,by omega,h4,fun p hp=>by have:=(key p hp).1;omega,fun p hp=>(key p hp).2.1,fun p hp s hs => ?_⟩
 obtain ⟨i,hi,rfl⟩:=List.mem_iff_getElem.1 hs
 have:=(key p hp).2.2.2.2 i hi
 simp only [List.getD_eq_getElem?_getD,hi,List.getElem?_eq_getElem,Option.getD_some] at this
 omega
def sy (nt:Nat) (s:Int):Nat:=(s-nt).toNat
def nuB (nt:Nat) (N:Nat→Bool) (l:List Int):Bool:=l.all fun s=>decide ((nt:Int)≤s)&&N (sy nt s)
inductive Nul (nt:Nat) (ps:List ProdD):Nat→Prop
 | mk (p:ProdD):p∈ps→(∀s∈p.2.1,(nt:Int)≤s)→(∀s∈p.2.1,Nul nt ps (sy nt s))→Nul nt ps (sy nt p.1)
theorem nul_iff {nt:Nat} {ps:List ProdD} {N:Nat→Bool} (h1 : ∀i,N i=true→Nul nt ps i) (h2 : ∀p∈ps,nuB nt N p.2.1=true→N (sy nt p.1)=true) (i:Nat):N i=true↔Nul nt ps i:=by
 refine ⟨h1 i,fun h => ?_⟩
 induction h with
 | mk p hp hs _ ih=>
   refine h2 p hp ?_
   simp only [nuB,List.all_eq_true,Bool.and_eq_true,decide_eq_true_eq]
   exact fun s hm=>⟨hs s hm,ih s hm⟩
theorem nul_add {nt:Nat} {ps:List ProdD} {N:Nat→Bool} (h1 : ∀i,N i=true→Nul nt ps i) {p:ProdD} (hp:p∈ps) (ha:nuB nt N p.2.1=true) : ∀i,upd N (sy nt p.1) true i=true→Nul nt ps i:=by
 intro i hi
 by_cases h:i=sy nt p.1
 · subst h
   simp only [nuB,List.all_eq_true,Bool.and_eq_true,decide_eq_true_eq] at ha
   exact .mk p hp (fun s hs=>(ha s hs).1) fun s hs=>h1 _ (ha s hs).2
 · rw [upd_ne _ _ h] at hi
   exact h1 i hi
def StB (nt:Nat) (ps:List ProdD) (N:Nat→Bool) (i x:Nat):Prop:=
 ∃p∈ps,sy nt p.1=i ∧ ∃k,k<p.2.1.length∧(nt:Int)≤p.2.1.getD k 0∧sy nt (p.2.1.getD k 0)=x∧nuB nt N (p.2.1.take k)=true∧nuB nt N (p.2.1.drop (k+1))=true
theorem RB.sy_lt {nt nn:Nat} {ps:List ProdD} (h:RB nt nn ps) {p:ProdD} (hp:p∈ps):sy nt p.1<nn:=by
 have:=h.lf p hp;have:=h.n1;unfold sy;omega
theorem RB.sym_lt {nt nn:Nat} {ps:List ProdD} (h:RB nt nn ps) {p:ProdD} (hp:p∈ps) {s:Int} (hs:s∈p.2.1):sy nt s<nn:=by
 have:=h.rs p hp s hs;have:=h.n1;unfold sy;omega
theorem getD_in {xs:List Int} {i:Nat} (h:i<xs.length):xs.getD i 0∈xs:=getD_mem 0 h
theorem StB.lt {nt nn:Nat} {ps:List ProdD} {N:Nat→Bool} (h:RB nt nn ps) (a b:Nat) (hs:StB nt ps N a b):a<nn∧b<nn:=by
 obtain ⟨p,hp,rfl,k,hk,_,rfl,_⟩:=hs
 exact ⟨h.sy_lt hp,h.sym_lt hp (getD_in hk)⟩
def offs (n:Nat) (f:Nat→Bool):Nat:=((List.range n).filter fun i => !f i).length
theorem offs_le (n:Nat) (f:Nat→Bool):offs n f≤n:=by
 have:=List.length_filter_le (fun i => !f i) (List.range n)
 simpa [offs] using this
theorem offs_upd {f:Nat→Bool} {i:Nat} (hf:f i=false) : ∀n,i<n→offs n (upd f i true)+1=offs n f
 | 0,h=>by omega
 | n+1,h=>by
   unfold offs
   rw [List.range_succ,List.filter_append,List.filter_append,List.length_append,List.length_append]
   by_cases hn:i=n
   · subst hn
     have e:((List.range i).filter fun j => !upd f i true j)=(List.range i).filter fun j => !f j:=List.filter_congr fun j hj=>by
      have:j<i:=List.mem_range.1 hj
      rw [upd_ne _ _ (by omega)]
     rw [e]
     simp [upd_at,hf]
   · have ih:=offs_upd hf n (by omega)
     unfold offs at ih
     have e:upd f i true n=f n:=upd_ne _ _ (by omega)
     simp only [List.filter_cons,List.filter_nil,e]
     split <;> simp only [List.length_cons,List.length_nil] <;> omega
end Go.Proofs.Ytgoaegbddpmiiaa
