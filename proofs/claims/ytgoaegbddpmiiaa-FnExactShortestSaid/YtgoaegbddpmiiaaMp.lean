/- Maps as plain dictionaries; no condition. -/
import Derived.Test.YtgoaegbddpmiiaaUx
namespace Go.Proofs.Ytgoaegbddpmiiaa
open Go.VK AVal
def MpS (xs:List AVal):Prop:=xs.Pairwise fun x y=>kcode (mpK x)<kcode (mpK y)
theorem mpS_nil:MpS []:=List.Pairwise.nil
theorem mpS_ins {k v:AVal} {xs:List AVal} (h:MpS xs):MpS (mpIns k v xs):=mpIns_ord h
theorem mpGet_none {c:Nat} : ∀{xs:List AVal},(∀y∈xs,kcode (mpK y)≠c)→mpGet c xs=none
 | [],_=>rfl
 | y::r,h=>by
   have g:Nat.beq (kcode (mpK y)) c=false:=beq_ne (h y (by simp))
   simp only [mpGet,g,cond_false]
   exact mpGet_none fun z hz=>h z (by simp [hz])
theorem mpGet_cons {c:Nat} {y:AVal} {r:List AVal}:mpGet c (y::r)=if c=kcode (mpK y) then some (mpV y) else mpGet c r:=by
 by_cases g:c=kcode (mpK y)
 · subst g;simp [mpGet]
 · have:Nat.beq (kcode (mpK y)) c=false:=beq_ne fun h=>g h.symm
   simp [mpGet,this,g]
theorem mpGet_ins {k v:AVal} (c:Nat) : ∀{xs:List AVal},MpS xs→mpGet c (mpIns k v xs)=if c=kcode k then some v else mpGet c xs
 | [],_=>by
   simp only [mpIns,mpGet_cons];rfl
 | y::r,h=>by
   have hr:=List.pairwise_cons.1 h
   have hk:mpK (.tup [k,v])=k:=rfl
   have hv:mpV (.tup [k,v])=v:=rfl
   simp only [mpIns]
   cases g:Nat.beq (kcode (mpK y)) (kcode k) with
   | true=>
     have g:=Nat.eq_of_beq_eq_true g
     simp only [cond_true,mpGet_cons,hk,hv,g]
     by_cases q:c=kcode k <;> simp [q]
   | false=>
     have g0:kcode (mpK y)≠kcode k:=fun q=>by rw [q] at g;simp at g
     simp only [cond_false]
     cases g2:Nat.blt (kcode k) (kcode (mpK y)) with
     | true=>
       simp only [cond_true,mpGet_cons (y:=.tup [k,v]),hk,hv]
     | false=>
       simp only [cond_false,mpGet_cons (y:=y),mpGet_ins c hr.2]
       by_cases q:c=kcode k
       · have:c≠kcode (mpK y):=by omega
         simp only [q,if_true,if_neg (show ¬kcode k=kcode (mpK y) from fun e=>g0 e.symm)]
       · simp only [q,if_false]
theorem encB_inj : ∀{a b:List UInt8},encB a=encB b→a=b
 | [],[],_=>rfl
 | [],b::r,h=>by simp only [encB] at h;omega
 | a::q,[],h=>by simp only [encB] at h;omega
 | a::q,b::r,h=>by
   simp only [encB] at h
   have h1:=a.toNat_lt
   have h2:=b.toNat_lt
   have e1:a.toNat=b.toNat:=by omega
   have e2:encB q=encB r:=by omega
   rw [encB_inj e2,UInt8.toNat_inj.1 e1]
theorem kcode_str {s t:ByteArray}:kcode (.str s)=kcode (.str t)↔s=t:=by
 constructor
 · intro h
   have:=encB_inj (show encB s.data.toList=encB t.data.toList from h)
   exact ByteArray.ext (Array.toList_inj.1 this)
 · rintro rfl;rfl
theorem kcode_int {k:IntKind} {a b:Int}:kcode (.int k a)=kcode (.int k b)↔a=b:=by
 constructor
 · intro h
   simp only [kcode,Bool.cond_eq_ite,decide_eq_true_eq] at h
   split at h <;> split at h <;> omega
 · rintro rfl;rfl
def dS (l:List (ByteArray×Int)):List AVal:=l.foldl (fun m p=>mpIns (.str p.1) (iv p.2) m) []
theorem dS_snoc (l:List (ByteArray×Int)) (p:ByteArray×Int):dS (l++[p])=mpIns (.str p.1) (iv p.2) (dS l):=by simp [dS]
theorem foldl_ord {α:Type} (f:α→AVal×AVal) : ∀(l:List α) {m:List AVal},MpS m→MpS (l.foldl (fun m p=>mpIns (f p).1 (f p).2 m) m)
 | [],_,h=>h
 | _::l,_,h=>foldl_ord f l (mpS_ins h)
theorem dS_ord (l:List (ByteArray×Int)):MpS (dS l):=foldl_ord (fun p:ByteArray×Int=>(AVal.str p.1,iv p.2)) l mpS_nil
def dlast {α:Type} [DecidableEq α] (l:List (α×Int)) (t:α):Option Int:=l.foldl (fun o p=>if t=p.1 then some p.2 else o) none
theorem dlast_snoc {α:Type} [DecidableEq α] (l:List (α×Int)) (p:α×Int) (t:α):dlast (l++[p]) t=if t=p.1 then some p.2 else dlast l t:=by simp [dlast]
theorem dS_getF (t:ByteArray) : ∀(l:List (ByteArray×Int)) (m:List AVal) (o:Option Int),MpS m→mpGet (kcode (.str t)) m=o.map iv →
 mpGet (kcode (.str t)) (l.foldl (fun m p=>mpIns (.str p.1) (iv p.2) m) m)=(l.foldl (fun o p=>if t=p.1 then some p.2 else o) o).map iv
 | [],_,_,_,h=>h
 | p::l,m,o,hm,h=>by
   simp only [List.foldl_cons]
   refine dS_getF t l _ _ (mpS_ins hm) ?_
   rw [mpGet_ins _ hm,h]
   by_cases g:t=p.1
   · simp [g]
   · simp [g,kcode_str]
theorem dS_get (l:List (ByteArray×Int)) (t:ByteArray):mpGet (kcode (.str t)) (dS l)=(dlast l t).map iv:=dS_getF t l [] none mpS_nil rfl
def dI (l:List (Int×Int)):List AVal:=l.foldl (fun m p=>mpIns (iv p.1) (iv p.2) m) []
theorem dI_snoc (l:List (Int×Int)) (p:Int×Int):dI (l++[p])=mpIns (iv p.1) (iv p.2) (dI l):=by simp [dI]
theorem dI_ord (l:List (Int×Int)):MpS (dI l):=foldl_ord (fun p:Int×Int=>(iv p.1,iv p.2)) l mpS_nil
theorem dI_getF (t:Int) : ∀(l:List (Int×Int)) (m:List AVal) (o:Option Int),MpS m→mpGet (kcode (iv t)) m=o.map iv →
 mpGet (kcode (iv t)) (l.foldl (fun m p=>mpIns (iv p.1) (iv p.2) m) m)=(l.foldl (fun o p=>if t=p.1 then some p.2 else o) o).map iv
 | [],_,_,_,h=>h
 | p::l,m,o,hm,h=>by
   simp only [List.foldl_cons]
   refine dI_getF t l _ _ (mpS_ins hm) ?_
   rw [mpGet_ins _ hm,h]
   by_cases g:t=p.1
   · simp [g]
   · simp [g,iv,kcode_int]
theorem dI_get (l:List (Int×Int)) (t:Int):mpGet (kcode (iv t)) (dI l)=(dlast l t).map iv:=dI_getF t l [] none mpS_nil rfl
theorem oiv_getD (o:Option Int):(o.map iv).getD (.int .i64 0)=iv (o.getD 0):=by cases o <;> rfl
def ones {α:Type} (l:List α):List (α×Int):=l.map fun a=>(a,1)
theorem ones_snoc {α:Type} (l:List α) (a:α):ones (l++[a])=ones l++[(a,1)]:=by simp [ones]
theorem dlast_onesF {α:Type} [DecidableEq α] (t:α) : ∀(l:List α) (o:Option Int),(ones l).foldl (fun o p=>if t=p.1 then some p.2 else o) o=bif l.any (fun x=>decide (t=x)) then some 1 else o
 | [],o=>by simp [ones]
 | a::l,o=>by
   have ih:=dlast_onesF t l (if t=a then some 1 else o)
   simp only [ones,List.map_cons,List.foldl_cons] at ih ⊢
   rw [ih]
   by_cases g:t=a <;> cases g2:l.any (fun x=>decide (t=x)) <;> simp [g,g2]
theorem dlast_ones {α:Type} [DecidableEq α] (l:List α) (t:α):dlast (ones l) t=bif l.any (fun x=>decide (t=x)) then some 1 else none:=dlast_onesF t l none
theorem mpIns_len {k v:AVal} : ∀{xs:List AVal},MpS xs→(mpIns k v xs).length=if (mpGet (kcode k) xs).isSome then xs.length else xs.length+1
 | [],_=>by simp [mpIns,mpGet]
 | y::r,h=>by
   have hr:=List.pairwise_cons.1 h
   simp only [mpIns,mpGet_cons]
   cases g:Nat.beq (kcode (mpK y)) (kcode k) with
   | true=>
     have g:=Nat.eq_of_beq_eq_true g
     simp [g]
   | false=>
     have g0 : ¬kcode k=kcode (mpK y):=fun q=>by rw [q] at g;simp at g
     simp only [cond_false,g0,if_false]
     cases g2:Nat.blt (kcode k) (kcode (mpK y)) with
     | true=>
       rw [Nat.blt_eq] at g2
       have:mpGet (kcode k) r=none:=mpGet_none fun z hz=>by have:=hr.1 z hz;omega
       simp [this]
     | false=>
       simp only [cond_false,List.length_cons,mpIns_len hr.2]
       split <;> simp
end Go.Proofs.Ytgoaegbddpmiiaa
