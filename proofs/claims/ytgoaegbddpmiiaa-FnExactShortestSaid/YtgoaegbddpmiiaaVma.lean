/- An evaluator of the model's code on values, and the proof that it tells what the code does, part 1; no condition. -/
import GoSem.Core.Program
import GoSem.Core.Region
import GoSem.Core.View
import GoSem.Op.String
import Derived.Laws.Externs
import Derived.Lib.ItoaNum
import Derived.Lib.Builder
import Derived.Lib.AppendStr
import GoSem.Core.Sem
import Derived.Calls
import Derived.Laws.Sem
import Derived.Tactics
namespace Go.VK
inductive CT where
 | bool|int (k:IntKind)|str|slice (sz:Nat)|ptr|oth
 deriving DecidableEq,Inhabited
inductive AVal where
 | und
 | bool (b:Bool)
 | int (k:IntKind) (n:Int)
 | str (s:ByteArray)
 | nilp
 | ptr (K:Nat) (p:List Nat) (off:Option Nat)
 | rop (x:AVal) (off:Option Nat)
 | ref (K:Nat) (p:List Nat)
 | ro (t:Bool) (sz:Nat) (xs:List AVal)
 | own (sz:Nat) (xs:List AVal)
 | nils (sz:Nat)
 | agg (cs:List AVal)
 | tup (vs:List AVal)
 | clo (f:Nat) (caps:List AVal)
 | mp (kc:CT) (xs:List AVal)
 | unk
 deriving Inhabited
def bndBase:Nat:=1000000
def pre:List Nat→List Nat→Bool
 | [],_=>true
 | i::p,j::q=>Nat.beq i j&&pre p q
 | _::_,[]=>false
def hitP:List Nat→List Nat→Bool
 | [],_=>true
 | i::p,j::q=>Nat.beq i j&&Nat.ble p.length q.length
 | _::_,[]=>false
namespace AVal
def toBool:AVal→Bool|.bool b=>b|_=>false
def toInt:AVal→Int|.int _ n=>n|_=>0
def toStr:AVal→ByteArray|.str s=>s|_=>ByteArray.empty
def elems:AVal→List AVal|.ro _ _ xs=>xs|.own _ xs=>xs|_=>[]
def ents:AVal→List AVal|.mp _ xs=>xs|_=>[]
def cells:AVal→List AVal|.agg cs=>cs|x=>[x]
def cell (v:AVal) (i:Nat):AVal:=v.cells.getD i .und
def get:AVal→List Nat→AVal
 | v,[]=>v
 | .agg cs,c::p=>(cs.getD c .und).get p
 | .own _ xs,i::p=>(xs.getD i .und).get p
 | .ro _ _ xs,i::p=>(xs.getD i .und).get p
 | .tup vs,i::p=>(vs.getD i .und).get p
 | _,_::_=>.und
def okg:AVal→List Nat→Bool
 | _,[]=>true
 | .agg cs,c::p=>Nat.blt c cs.length&&(cs.getD c .und).okg p
 | .own _ xs,i::p=>Nat.blt i xs.length&&(xs.getD i .und).okg p
 | .ro _ _ xs,i::p=>Nat.blt i xs.length&&(xs.getD i .und).okg p
 | .tup vs,i::p=>Nat.blt i vs.length&&(vs.getD i .und).okg p
 | _,_::_=>false
def okp:AVal→List Nat→Bool
 | _,[]=>true
 | .agg cs,c::p=>Nat.blt c cs.length&&(cs.getD c .und).okp p
 | .own _ xs,i::p=>Nat.blt i xs.length&&(xs.getD i .und).okp p
 | .tup vs,i::p=>Nat.blt i vs.length&&(vs.getD i .und).okp p
 | _,_::_=>false
def put:AVal→List Nat→AVal→AVal
 | _,[],x=>x
 | .agg cs,c::p,x=>.agg (cs.set c ((cs.getD c .und).put p x))
 | .own sz xs,i::p,x=>.own sz (xs.set i ((xs.getD i .und).put p x))
 | .tup vs,i::p,x=>.tup (vs.set i ((vs.getD i .und).put p x))
 | v,_::_,_=>v
def thru:AVal→List Nat→Bool
 | .agg cs,c::p=>(cs.getD c .und).thru p
 | .tup vs,i::p=>(vs.getD i .und).thru p
 | .own _ _,_::_=>true
 | .ro _ _ _,_::_=>true
 | _,_=>false
mutual
def asRo:AVal→AVal
 | .own sz xs=>.ro false sz (asRoL xs)
 | .agg cs=>.agg (asRoL cs)
 | .tup cs=>.tup (asRoL cs)
 | .mp _ _=>.und
 | v=>v
def asRoL:List AVal→List AVal
 | []=>[]
 | x::xs=>asRo x::asRoL xs
end
mutual
def noRo:AVal→Bool
 | .ro _ _ _=>false
 | .own _ xs=>noRoL xs
 | .agg cs=>noRoL cs
 | .tup cs=>noRoL cs
 | .bool _|.int _ _|.str _|.nilp|.nils _|.unk=>true
 | _=>false
def noRoL:List AVal→Bool
 | []=>true
 | x::xs=>noRo x&&noRoL xs
end
mutual
def keys:AVal→List Nat
 | .ptr K _ _=>[K]
 | .ref K _=>[K]
 | .agg cs=>keysL cs
 | .tup cs=>keysL cs
 | .clo _ cs=>keysL cs
 | _=>[]
def keysL:List AVal→List Nat
 | []=>[]
 | x::xs=>keys x++keysL xs
end
mutual
def into (y:Nat×List Nat):AVal→Bool
 | .ptr J p _=>Nat.beq J y.1&&(!p.isEmpty&&hitP y.2 p)
 | .ref J p=>Nat.beq J y.1&&(!p.isEmpty&&hitP y.2 p)
 | .agg cs=>intoL y cs
 | .tup cs=>intoL y cs
 | .clo _ cs=>intoL y cs
 | _=>false
def intoL (y:Nat×List Nat):List AVal→Bool
 | []=>false
 | x::xs=>into y x||intoL y xs
end
end AVal
def mem (k:Nat):List Nat→Bool
 | []=>false
 | j::r=>Nat.beq j k||mem k r
structure TI where
 agg:Bool
 cts:List CT
 elem:Option Nat:=none
 key:Option Nat:=none
 offs:List (Nat×Nat):=[]
 bytes:Nat
 deriving DecidableEq,Inhabited
def CT.shape:CT→AVal→Bool
 | .bool,.bool _=>true
 | .int k,.int j _=>decide (k=j)
 | .str,.str _=>true
 | .slice sz,.ro _ s _=>Nat.beq s sz
 | .slice sz,.own s _=>Nat.beq s sz
 | .slice sz,.nils s=>Nat.beq s sz
 | _,_=>false
def CT.co:CT→AVal→AVal
 | .bool,v=>.bool v.toBool
 | .int k,v=>.int k v.toInt
 | .str,v=>.str v.toStr
 | .slice sz,v=>.ro false sz v.elems
 | _,_=>.und
def CT.zero:CT→AVal
 | .bool=>.bool false
 | .int k=>.int k 0
 | .str=>.str ByteArray.empty
 | .slice sz=>.own sz []
 | .ptr=>.nilp
 | .oth=>.unk
def shapes:List CT→List AVal→Bool
 | [],[]=>true
 | c::cs,v::vs=>c.shape v&&shapes cs vs
 | _,_=>false
def TI.shape (T:TI) (v:AVal):Bool:=
 match T.agg,T.cts with
 | true,cs=>(match v with|.agg vs=>shapes cs vs|_=>false)
 | false,[c]=>c.shape v
 | _,_=>false
def cosFrom (v:AVal):Nat→List CT→List AVal
 | _,[]=>[]
 | i,c::cs=>c.co (v.cell i)::cosFrom v (i+1) cs
def TI.co (T:TI) (v:AVal):AVal:=
 match T.agg,T.cts with
 | true,cs=>.agg (cosFrom v 0 cs)
 | false,[c]=>c.co v
 | _,_=>.und
def TI.zero (T:TI):AVal:=
 match T.agg,T.cts with
 | true,cs=>.agg (cs.map CT.zero)
 | false,[c]=>c.zero
 | _,_=>.und
def passBase:Nat:=2000000
def lk {α:Type} (l:List (Nat×α)) (t:Nat):Option α:=
 match l with
 | []=>none
 | (s,v)::r=>bif Nat.beq s t then some v else lk r t
def del {α:Type} (l:List (Nat×α)) (t:Nat):List (Nat×α):=
 match l with
 | []=>[]
 | (s,v)::r=>bif Nat.beq s t then del r t else (s,v)::del r t
def ins {α:Type} (l:List (Nat×α)) (t:Nat) (v:α):List (Nat×α):=(t,v)::del l t
structure VObj where
 box:Bool
 c:AVal
 deriving Inhabited
structure St where
 env:List (Nat×AVal)
 objs:List (Nat×VObj)
 ka:List Nat:=[]
 ki:List (Nat×List Nat):=[]
 kr:List Nat:=[]
 deriving Inhabited
def St.tmp (s:St) (t:Nat):AVal:=(lk s.env t).getD .und
def St.set (s:St) (t:Nat) (v:AVal):St:={ s with env:=ins s.env t v }
def St.obj (s:St) (K:Nat):Option VObj:=lk s.objs K
def St.setObj (s:St) (K:Nat) (o:VObj):St:={ s with objs:=ins s.objs K o }
def St.delObj (s:St) (K:Nat):St:={ s with objs:=del s.objs K }
mutual
def killV (b:AVal→Bool):AVal→AVal
 | .ptr K p off=>bif b (.ptr K p off) then .und else .ptr K p off
 | .ref K p=>bif b (.ref K p) then .und else .ref K p
 | .clo f cs=>bif b (.clo f cs) then .und else .clo f cs
 | .agg cs=>.agg (killVs b cs)
 | .tup cs=>.tup (killVs b cs)
 | v=>v
def killVs (b:AVal→Bool):List AVal→List AVal
 | []=>[]
 | c::cs=>killV b c::killVs b cs
end
def killIn (b:AVal→Bool):List (Nat×AVal)→List (Nat×AVal)
 | []=>[]
 | (t,v)::r=>(t,killV b v)::killIn b r
mutual
def noUnd:AVal→Bool
 | .und=>false
 | .agg cs=>noUnds cs
 | .tup cs=>noUnds cs
 | _=>true
def noUnds:List AVal→Bool
 | []=>true
 | c::cs=>noUnd c&&noUnds cs
end
def killObjs (b:AVal→Bool):List (Nat×VObj)→List (Nat×VObj)
 | []=>[]
 | (K,o)::r=>(K,{ o with c:=killV b o.c })::killObjs b r
def St.killInto (s:St) (K:Nat):St:={ s with ki:=(K,[])::s.ki }
def St.killAt (s:St) (K:Nat) (p:List Nat):St:={ s with ki:=(K,p)::s.ki }
def kk (l:List (Nat×List Nat)):List Nat:=l.map (·.1)
def St.drop (s:St) (K:Nat):St:={ s with objs:=del s.objs K,ka:=K::s.ka }
def isRef (K:Nat):AVal→Bool
 | .ref J _=>Nat.beq J K
 | .clo _ cs=>refL K cs
 | _=>false
where refL (K:Nat):List AVal→Bool
 | []=>false
 | .ref J _::r=>Nat.beq J K||refL K r
 | _::r=>refL K r
def AVal.dead (ka:List Nat) (ki:List (Nat×List Nat)) (kr:List Nat) (v:AVal):Bool:=ka.any (fun K=>mem K v.keys)||(ki.any (fun y=>v.into y)||kr.any fun K=>isRef K v)
def aggQ:AVal→Bool|.agg _=>true|_=>false
def noAgg:List AVal→Bool
 | []=>true
 | v::vs => !(aggQ v)&&noAgg vs
mutual
def St.take (s:St):AVal→Option (AVal×St)
 | .ref K p=>
   bif Nat.ble passBase K then some (.ref K p,s) else
   match s.obj K,p with
   | some o,[]=>bif o.box then (bif o.c.okp [] && !(aggQ (o.c.get [])) then some (o.c.get [],(s.killAt K []).setObj K { o with c:=o.c.put [] .und }) else none) else some (o.c,s.drop K)
   | some o,_::_=>bif o.c.okp p && !(aggQ (o.c.get p)) then some (o.c.get p,(s.killAt K (bif o.box then p else [])).setObj K { o with c:=o.c.put p .und }) else none
   | none,_=>none
 | .agg cs=>match s.takeL cs with|some (vs,s')=>bif noAgg vs then some (.agg vs,s') else none|none=>none
 | .tup _=>none
 | .rop _ _=>none
 | .nils sz=>some (.own sz [],s)
 | v=>some (v,s)
def St.takeL (s:St):List AVal→Option (List AVal×St)
 | []=>some ([],s)
 | x::xs=>match s.take x with
   | some (v,s1)=>(match s1.takeL xs with|some (vs,s2)=>some (v::vs,s2)|none=>none)
   | none=>none
end
def St.dig (s:St) (K:Nat) (p:List Nat):Option (AVal×St):=
 match s.obj K with
 | some o=>bif o.c.okp p && !(aggQ (o.c.get p)) then some (o.c.get p,(s.killAt K (bif o.box then p else [])).setObj K { o with c:=o.c.put p .und }) else none
 | none=>none
def St.digC (s:St) (K:Nat) (p:List Nat):Option (Bool×AVal×St):=
 match s.obj K with
 | some o=>some (o.c.okp p && !(aggQ (o.c.get p)),o.c.get p,(s.killAt K (bif o.box then p else [])).setObj K { o with c:=o.c.put p .und })
 | none=>none
def St.pull (s:St) (K:Nat):List Nat→Option (Bool×AVal×St)
 | []=>bif Nat.ble passBase K then s.digC K [] else (match s.take (.ref K []) with|some (c,s1)=>some (true,c,s1)|none=>none)
 | i::p=>s.digC K (i::p)
def St.give (s:St):AVal→Option (AVal×St)
 | .ref K p=>bif Nat.ble passBase K then s.dig K p else s.take (.ref K p)
 | .und=>none
 | x=>s.take x
def St.at (s:St) (K:Nat) (p:List Nat):Option (Bool×AVal):=
 match s.obj K with|some o=>some (o.c.okg p,o.c.get p)|none=>none
def slQ:AVal→Bool|.own _ _=>true|.ro _ _ _=>true|_=>false
mutual
def St.snap (s:St):AVal→Option (Bool×AVal)
 | .ref K p=>match s.at K p with|some (b,c)=>some (b&&slQ c,c.asRo)|none=>none
 | .agg cs=>match s.snapL cs with|some (b,vs)=>some (b,.agg vs)|none=>none
 | .und=>none
 | .rop _ _=>none
 | .ptr _ _ _=>none
 | .clo _ _=>none
 | .tup _=>none
 | .own _ _=>none
 | .nils sz=>some (true,.ro true sz [])
 | v=>some (true,v)
def St.snapL (s:St):List AVal→Option (Bool×List AVal)
 | []=>some (true,[])
 | x::xs=>match s.snap x,s.snapL xs with|some (b,v),some (d,vs)=>some (b&&d,v::vs)|_,_=>none
end
end Go.VK
namespace Go.VK
open AVal
structure LoopHint where
 live:List Nat
 liveX:List Nat
 own:List Nat:=[]
 deriving Inhabited
structure FnI where
 nt:Nat
 res:List ResultVar
 body:Code
 rts:List Nat
 frz:Bool:=true
 muts:List Nat:=[]
 keep:Bool:=false
 loops:List LoopHint:=[]
 sink:Bool:=false
 rops:List Nat:=[]
 deriving Inhabited
structure Ctx where
 tab:List (Nat×TI)
 fns:List (Nat×FnI)
 idxB:Option Nat:=none
 bld:Option (Nat×Nat):=none
 nats:List (Nat×Nat):=[]
 eqs:List (Nat×List CT):=[]
 keys:List (Nat×Nat):=[]
def idxOf (z:ByteArray) (c:Int):Int:=firstIdx z c.toNat.toUInt8
abbrev Oracle:=Nat→List AVal→List VObj→Option (List AVal×List VObj)
def Ctx.ti (Φ:Ctx) (t:Nat):Option TI:=lk Φ.tab t
def Ctx.szOf (Φ:Ctx) (t:Nat):Nat:=
 match Φ.ti t with|some { agg:=false,cts:=[.slice sz],.. }=>sz|_=>0
def bldMk (T e:Nat) (s:ByteArray):List AVal:=[.str s,.int .i64 (T:Int),.int .i64 (e:Int)]
def bldQ (T e:Nat):List AVal→Bool|[.str _,.int .i64 a,.int .i64 b]=>decide (a=(T:Int))&&decide (b=(e:Int))|_=>false
def bldS:List AVal→ByteArray|.str s::_=>s|_=>ByteArray.empty
theorem bldQ_mk (T e:Nat) (s:ByteArray):bldQ T e (bldMk T e s)=true:=by simp [bldQ,bldMk]
theorem bldS_mk (T e:Nat) (s:ByteArray):bldS (bldMk T e s)=s:=rfl
theorem bldQ_eq {T e:Nat} {xs:List AVal} (h:bldQ T e xs=true):xs=bldMk T e (bldS xs):=by
 unfold bldQ at h
 split at h
 · simp only [Bool.and_eq_true,decide_eq_true_eq] at h
   obtain ⟨rfl,rfl⟩:=h;rfl
 · simp at h
def Ctx.bldT (Φ:Ctx) (t:Nat):Option Nat:=
 match Φ.bld,Φ.ti t with
 | some (T,e),some { agg:=true,cts:=[.ptr,.slice 1],.. }=>bif Nat.beq T t then some e else none
 | _,_=>none
def cval (sz:Nat):Value→Option AVal
 | .bool b=>some (.bool b)
 | .int k n=>some (.int k n)
 | .string s=>some (.str s)
 | .pointer none=>some .nilp
 | .slice none 0 0=>some (.nils sz)
 | _=>none
def ctSz:CT→Nat|.slice sz=>sz|_=>0
def cvals:List CT→List Value→Option (List AVal)
 | [],[]=>some []
 | ct::cs,v::vs=>(match cval (ctSz ct) v,cvals cs vs with|some x,some xs=>some (x::xs)|_,_=>none)
 | _,_=>none
def constV (Φ:Ctx) (T:Nat) (v:Value):Option AVal:=
 match v with
 | .agg vs=>(match Φ.ti T with
   | some I=>bif I.agg then (match cvals I.cts vs.toList with|some xs=>some (.agg xs)|none=>none) else none
   | none=>none)
 | v=>cval (Φ.szOf T) v
def St.ev (Φ:Ctx) (s:St) (T:Nat):Operand→Option AVal
 | .tmp t=>(match s.tmp t with|.und=>none|v=>some v)
 | .const v=>constV Φ T v
 | .func f=>bif Nat.ble bndBase f then none else some (.clo f [])
 | .global _=>none
def fits64 (n:Nat):Bool:=Nat.ble n 9223372036854775807
theorem fits64_of {n:Nat} (h:n≤9223372036854775807):fits64 n=true:=Nat.ble_eq_true_of_le h
theorem fits64_le {n:Nat} (h:fits64 n=true):n≤9223372036854775807:=Nat.le_of_ble_eq_true h
def vbin (op:BinOp) (x y:AVal):Option (Bool×AVal):=
 match op,x,y with
 | .shl,.int k a,.int _ b=>some (decide (0≤b),.int k (k.wrap (a*2 ^ (min b.toNat k.bits))))
 | .shr,.int k a,.int _ b=>some (decide (0≤b),.int k (a.fdiv (2 ^ (min b.toNat k.bits))))
 | _,.int k a,.int j b=>
   bif decide (k=j) then
    match op with
    | .add=>some (true,.int k (k.wrap (a+b)))
    | .sub=>some (true,.int k (k.wrap (a-b)))
    | .mul=>some (true,.int k (k.wrap (a*b)))
    | .quo=>some (decide (b≠0),.int k (k.wrap (a.tdiv b)))
    | .rem=>some (decide (b≠0),.int k (a.tmod b))
    | .and=>some (true,.int k (k.wrap (BitVec.ofInt k.bits a &&& BitVec.ofInt k.bits b).toNat))
    | .or=>some (true,.int k (k.wrap (BitVec.ofInt k.bits a ||| BitVec.ofInt k.bits b).toNat))
    | .eql=>some (true,.bool (decide (a=b)))
    | .neq=>some (true,.bool (!decide (a=b)))
    | .lss=>some (true,.bool (decide (a<b)))
    | .leq=>some (true,.bool (decide (a≤b)))
    | .gtr=>some (true,.bool (decide (b<a)))
    | .geq=>some (true,.bool (decide (b≤a)))
    | _=>none
   else none
 | .add,.str a,.str b=>some (fits64 (a.size+b.size),.str (a++b))
 | .eql,.str a,.str b=>some (true,.bool (decide (a=b)))
 | .neq,.str a,.str b=>some (true,.bool (!decide (a=b)))
 | .lss,.str a,.str b=>some (true,.bool (Op.bytesLess a.data.toList b.data.toList))
 | .gtr,.str a,.str b=>some (true,.bool (!(Op.bytesLess a.data.toList b.data.toList||decide (a=b))))
 | .leq,.str a,.str b=>some (true,.bool (Op.bytesLess a.data.toList b.data.toList||decide (a=b)))
 | .geq,.str a,.str b=>some (true,.bool (!Op.bytesLess a.data.toList b.data.toList))
 | .eql,.bool a,.bool b=>some (true,.bool (a==b))
 | .neq,.bool a,.bool b=>some (true,.bool (!(a==b)))
 | .eql,.ro _ _ xs,.nils _=>some (!xs.isEmpty,.bool false)
 | .eql,.nils _,.nils _=>some (true,.bool true)
 | _,_,_=>none
def eqCells:List CT→List AVal→List AVal→Option Bool
 | [],[],[]=>some true
 | .int k::cs,.int i a::xs,.int j b::ys=>bif decide (i=k)&&decide (j=k) then (match eqCells cs xs ys with|some r=>some (decide (a=b)&&r)|none=>none) else none
 | .str::cs,.str a::xs,.str b::ys=>(match eqCells cs xs ys with|some r=>some (decide (a=b)&&r)|none=>none)
 | .bool::cs,.bool a::xs,.bool b::ys=>(match eqCells cs xs ys with|some r=>some ((a==b)&&r)|none=>none)
 | _,_,_=>none
def vbinA (Φ:Ctx) (op:BinOp) (t:Nat) (xs ys:List AVal):Option AVal:=
 match lk Φ.eqs t,op with
 | some cs,.eql=>(eqCells cs xs ys).map .bool
 | some cs,.neq=>(eqCells cs xs ys).map fun b=>.bool (!b)
 | _,_=>none
def vun (op:UnOp) (x:AVal):Option AVal:=
 match op,x with
 | .neg,.int k n=>some (.int k (k.wrap (0-n)))
 | .not,.bool b=>some (.bool !b)
 | _,_=>none
def byteAt (s:ByteArray) (i:Nat):Int:=if h:i<s.size then ((s[i]'h).toNat:Int) else 0
structure Calm where
 cond:Bool
 v:AVal
 o:Option VObj:=none
def encB:List UInt8→Nat
 | []=>0
 | b::r=>b.toNat+1+257*encB r
def kcode1:AVal→Nat
 | .int _ n=>bif decide (0≤n) then 2*n.toNat else 2*(-n).toNat-1
 | .str s=>encB s.data.toList
 | _=>0
def pairN (a b:Nat):Nat:=(a+b)*(a+b)+a
def kcodeL:List AVal→Nat
 | []=>0
 | c::cs=>pairN (kcode1 c) (kcodeL cs)
def kcode:AVal→Nat
 | .int _ n=>bif decide (0≤n) then 2*n.toNat else 2*(-n).toNat-1
 | .str s=>encB s.data.toList
 | .agg cs=>kcodeL cs
 | _=>0
def mpK:AVal→AVal|.tup [k,_]=>k|_=>.und
def mpV:AVal→AVal|.tup [_,v]=>v|_=>.und
def mpGet (c:Nat):List AVal→Option AVal
 | []=>none
 | x::r=>bif Nat.beq (kcode (mpK x)) c then some (mpV x) else mpGet c r
def mpIns (k v:AVal):List AVal→List AVal
 | []=>[.tup [k,v]]
 | x::r=>bif Nat.beq (kcode (mpK x)) (kcode k) then .tup [k,v]::r else bif Nat.blt (kcode k) (kcode (mpK x)) then .tup [k,v]::x::r else x::mpIns k v r
def keyCsN:Nat→Nat→List CT
 | 0,_=>[]
 | f+1,m=>bif Nat.beq m 0 then [] else (bif Nat.beq (m % 2) 1 then CT.int .i64 else CT.str)::keyCsN f (m / 4)
def keyCs (m:Nat):List CT:=keyCsN 8 m
def keyQ1:CT→AVal→Bool
 | .int k,.int j n=>decide (k=j)&&(decide (k.min≤n)&&decide (n≤k.max))
 | .str,.str s=>Nat.ble s.size 9223372036854775807
 | _,_=>false
def keyQs:List CT→List AVal→Bool
 | [],[]=>true
 | c::cs,v::vs=>keyQ1 c v&&keyQs cs vs
 | _,_=>false
def keyQ:CT→AVal→Bool
 | .int k,.int j _=>decide (k=j)
 | .str,.str _=>true
 | .slice m,.agg cs=>keyQs (keyCs m) cs
 | _,_=>false
def keyCT:CT→Bool|.int _=>true|.str=>true|_=>false
def scalV:AVal→Bool|.bool _=>true|.int _ _=>true|.str _=>true|_=>false
def scalT (T:TI):Bool := !T.agg&&T.cts.all fun|.bool=>true|.int _=>true|.str=>true|_=>false
def Ctx.mapT (Φ:Ctx) (t:Nat):Option (Nat×CT×TI):=
 match Φ.ti t with
 | some { agg:=false,cts:=[.oth],elem:=some e,key:=some k,.. }=>
   (match Φ.ti k,Φ.ti e with
    | some { agg:=false,cts:=[c],.. },some E=>bif keyCT c&&scalT E then some (k,c,E) else none
    | some { agg:=true,.. },some E=>(match lk Φ.keys k with|some m=>bif scalT E then some (k,.slice m,E) else none|none=>none)
    | _,_=>none)
 | _=>none
def calmV (v:AVal):Option Calm:=some { cond:=true,v:=v }
def St.sl (s:St):AVal→Option (Bool×AVal)
 | .ro t sz xs=>some (true,.ro t sz xs)
 | .nils sz=>some (true,.ro true sz [])
 | .ref K p=>s.at K p
 | _=>none
def cellAt (T:CT) (K:Nat) (c:AVal) (p:List Nat):Option (Bool×AVal):=
 match T with
 | .slice sz=>
   bif c.thru p then some ((CT.slice sz).shape (c.get p),.ref K p)
   else match c.get p with
    | .own s _=>bif Nat.beq s sz then some (true,.ref K p) else none
    | .ro t s xs=>bif Nat.beq s sz then some (true,.ro t s xs) else none
    | .ref J q=>some (true,.ref J q)
    | _=>none
 | .ptr=>bif c.thru p then none else (match c.get p with|.nilp=>some (true,.nilp)|.ptr J q off=>some (true,.ptr J q off)|_=>none)
 | .oth=>bif c.thru p then none else (match c.get p with|.clo f cs=>some (true,.clo f cs)|.mp _ _=>some (true,.ref K p)|_=>none)
 | T=>some (T.shape (c.get p),T.co (c.get p))
def cellsAt (K:Nat) (c:AVal) (p:List Nat):Nat→List CT→Option (Bool×List AVal)
 | _,[]=>some (true,[])
 | i,T::Ts=>
   match cellAt T K c (p++[i]),cellsAt K c p (i+1) Ts with
   | some (b,v),some (d,vs)=>some (b&&d,v::vs)
   | _,_=>none
def offP (p:List Nat):Option Nat→List Nat|none=>p|some c=>p++[c]
def cosR (x:AVal):Nat→List CT→Option (List AVal)
 | _,[]=>some []
 | i,T::Ts=>match T,cosR x (i+1) Ts with
   | .ptr,_=>none
   | .oth,_=>none
   | T,some vs=>some (T.co (x.cell i)::vs)
   | _,none=>none
def coR (T:CT) (x:AVal):Option AVal:=match T with|.ptr=>none|.oth=>none|T=>some (T.co x)
def vload (T:TI) (s:St):AVal→Option (Bool×AVal)
 | .ptr K p off=>
   match s.obj K with
   | none=>none
   | some o=>
     match T.agg,T.cts with
     | true,cs=>
       (match cellsAt K o.c p (off.getD 0) cs with
        | some (b,vs)=>some (o.c.okg p&&(aggQ (o.c.get p)&&(Nat.ble (off.getD 0+cs.length) (o.c.get p).cells.length&&b)),.agg vs)
        | none=>none)
     | false,[ct]=>(match cellAt ct K o.c (offP p off) with
        | some (b,v)=>some (o.c.okg (offP p off)&&((off.isNone||aggQ (o.c.get p))&&b),v)
        | none=>none)
     | _,_=>none
 | .rop x off=>
   match T.agg,T.cts with
   | true,cs=>(match cosR x (off.getD 0) cs with
      | some vs=>some (shapes cs ((x.cells.drop (off.getD 0)).take cs.length),.agg vs)
      | none=>none)
   | false,[ct]=>(match off with
      | none=>(match coR ct x with|some v=>some (ct.shape x,v)|none=>none)
      | some c=>(match coR ct (x.cell c) with|some v=>some (ct.shape (x.cell c),v)|none=>none))
   | _,_=>none
 | _=>none
def inB (i:Int) (n:Nat):Bool:=decide (0≤i)&&decide (i<n)
def vindexAddr (sz:Nat) (s:St) (x i:AVal):Option (Bool×AVal):=
 match x,i with
 | .ro _ z xs,.int _ i=>bif Nat.beq z sz then some (inB i xs.length,.rop (xs.getD i.toNat .und) none) else none
 | .ref K p,.int _ i=>
   (match s.at K p with
    | some (b,c)=>some (b&&(CT.slice sz).shape c&&inB i c.elems.length,.ptr K (p++[i.toNat]) none)
    | none=>none)
 | _,_=>none
def lohi (lo hi:Option AVal) (n:Nat):Option (Bool×Nat×Nat):=
 match lo,hi with
 | none,none=>some (true,0,n)
 | some (.int _ l),none=>some (decide (0≤l)&&decide (l≤n),l.toNat,n)
 | none,some (.int _ h)=>some (decide (0≤h)&&decide (h≤n),0,h.toNat)
 | some (.int _ l),some (.int _ h)=>some (decide (0≤l)&&(decide (l≤h)&&decide (h≤n)),l.toNat,h.toNat)
 | _,_=>none
def vslice (x:AVal) (lo hi mx:Option AVal):Option (Bool×AVal):=
 match x with
 | .str s=>(match mx,lohi lo hi s.size with
   | none,some (b,l,h)=>some (b,.str (s.extract l h))
   | _,_=>none)
 | .ro t sz xs=>(match mx,lohi lo hi xs.length with
   | none,some (b,l,h)=>some (b,.ro (match hi with|none=>t|some _=>false) sz ((xs.take h).drop l))
   | some (.int _ m),some (b,l,h)=>(match hi with|none=>none|some _=>some (b&&decide (m=h),.ro true sz ((xs.take h).drop l)))
   | _,_=>none)
 | _=>none
def makes:Op→Bool
 | .alloc _=>true|.box _ _=>true|.buildSlice _ _ _=>true|.makeSlice _ _ _=>true
 | .call _=>true|.convert _ _ _=>true|.makeMap _ _=>true|.slice _ _ _ _ _=>true
 | _=>false
mutual
def refsOf (K:Nat) (p:List Nat):AVal→AVal
 | .own _ _=>.ref K p
 | .agg cs=>.agg (refsOfL K p 0 cs)
 | .tup cs=>.tup (refsOfL K p 0 cs)
 | v=>v
def refsOfL (K:Nat) (p:List Nat):Nat→List AVal→List AVal
 | _,[]=>[]
 | i,c::cs=>refsOf K (p++[i]) c::refsOfL K p (i+1) cs
end
mutual
def hasOwn:AVal→Bool
 | .own _ _=>true
 | .agg cs=>hasOwnL cs
 | .tup cs=>hasOwnL cs
 | _=>false
def hasOwnL:List AVal→Bool
 | []=>false
 | c::cs=>hasOwn c||hasOwnL cs
end
def CT.cow:CT→AVal→AVal|.slice sz,v=>.own sz v.elems|T,v=>T.co v
def CT.shOwn:CT→AVal→Bool|.slice sz,.own s _=>Nat.beq s sz|.slice _,_=>false|T,v=>T.shape v
def CT.shro:CT→AVal→Bool|.slice sz,.ro _ s _=>Nat.beq s sz|.slice _,_=>false|T,v=>T.shape v
def zipS (f:CT→AVal→Bool):List CT→List AVal→Bool
 | [],[]=>true
 | c::cs,v::vs=>f c v&&zipS f cs vs
 | _,_=>false
def mapFrom (f:CT→AVal→AVal) (v:AVal):Nat→List CT→List AVal
 | _,[]=>[]
 | i,c::cs=>f c (v.cell i)::mapFrom f v (i+1) cs
def plainCT:CT→Bool|.ptr=>false|.oth=>false|_=>true
def undQ:AVal→Bool|.und=>true|_=>false
def othT (T:TI):Bool := !T.agg&&(match T.cts with|[.oth]=>true|_=>false)
def ptrT (T:TI):Bool := !T.agg&&(match T.cts with|[.ptr]=>true|_=>false)
def bxQ:AVal→Bool|.tup cs=>(match cs with|[_]=>true|_=>false)|_=>false
def resv (frz:Bool) (T:TI) (v:AVal):Option (Bool×AVal):=
 bif othT T&&undQ v then some (true,.und) else
 bif ptrT T&&bxQ v then some (true,v) else
 bif T.cts.all plainCT then
  match T.agg,T.cts with
  | true,cs=>some ((match v with|.agg vs=>zipS (bif frz then CT.shro else CT.shOwn) cs vs|_=>false),.agg (mapFrom (bif frz then CT.co else CT.cow) v 0 cs))
  | false,[c]=>some ((bif frz then c.shro v else c.shOwn v),(bif frz then c.co v else c.cow v))
  | _,_=>none
 else none
def resvs (Φ:Ctx) (frz:Bool):Nat→List Nat→List AVal→Option (Bool×List AVal)
 | _,[],_=>some (true,[])
 | i,t::ts,vs=>
   match Φ.ti t with
   | none=>none
   | some T=>
     match resv frz T (vs.getD i .und),resvs Φ frz (i+1) ts vs with
     | some (b,v),some (d,us)=>some (b&&d,v::us)
     | _,_=>none
def argv (Φ:Ctx) (s:St) (t:Nat) (x:AVal):Option (Bool×AVal):=
 match Φ.ti t with
 | none=>none
 | some T=>
   match s.snap x with
   | none=>none
   | some (b,v)=>
     bif T.cts.all plainCT then
      match T.agg,T.cts with
      | true,cs=>some (b&&(match v with|.agg vs=>zipS CT.shro cs vs|_=>false),.agg (mapFrom CT.co v 0 cs))
      | false,[c]=>some (b&&c.shro v,c.co v)
      | _,_=>none
     else none
def evs (Φ:Ctx) (s:St):List Nat→List Operand→Option (List AVal)
 | _,[]=>some []
 | t::ts,x::xs=>match s.ev Φ t x,evs Φ s ts xs with|some v,some vs=>some (v::vs)|_,_=>none
 | _,_::_=>none
def argvs (Φ:Ctx) (s:St):List Nat→List AVal→Option (Bool×List AVal)
 | _,[]=>some (true,[])
 | t::ts,x::xs=>match argv Φ s t x,argvs Φ s ts xs with|some (b,v),some (d,vs)=>some (b&&d,v::vs)|_,_=>none
 | _,_::_=>none
end Go.VK
namespace Go.VK
open AVal
def capB (n bytes:Nat):Bool:=decide (n*bytes≤70368744177664)
def isSl:AVal→Bool|.own _ _=>true|.ro _ _ _=>true|_=>false
def isMp:AVal→Bool|.mp _ _=>true|_=>false
def St.one (s:St):AVal→Bool
 | .ref K p=>(match s.at K p with|some (b,c)=>b&&(isSl c||isMp c)|none=>false)
 | .und=>false
 | _=>true
def partsOf (Φ:Ctx) (s:St) (offs:List (Nat×Nat)) (n:Nat):List (Nat×Operand)→Option (List (Nat×AVal))
 | []=>some []
 | (i,x)::r=>
   match offs[i]?,partsOf Φ s offs n r with
   | some (off,t),some vs=>(match s.ev Φ t x,Φ.ti t with
     | some v,some U=>bif s.one v&&(Nat.beq v.cells.length U.cts.length&&Nat.ble (off+v.cells.length) n) then some ((off,v)::vs) else none
     | _,_=>none)
   | _,_=>none
def setMany (cs:List AVal) (off:Nat):List AVal→List AVal
 | []=>cs
 | v::vs=>setMany (cs.set off v) (off+1) vs
def fillCells (cs:List AVal):List (Nat×AVal)→List AVal
 | []=>cs
 | (off,v)::r=>fillCells (setMany cs off v.cells) r
def CT.zeroE:CT→AVal|.slice sz=>.nils sz|T=>T.zero
def TI.zeroE (T:TI):AVal:=
 match T.agg,T.cts with
 | true,cs=>.agg (cs.map CT.zeroE)
 | false,[c]=>c.zeroE
 | _,_=>.und
def evList (Φ:Ctx) (s:St) (t:Nat):List (Nat×Operand)→Nat→Option (List AVal)
 | [],_=>some []
 | (j,x)::r,i=>bif Nat.beq j i then (match s.ev Φ t x,evList Φ s t r (i+1) with|some v,some vs=>some (v::vs)|_,_=>none) else none
def allInt (k:IntKind) (xs:List AVal):Bool:=xs.all (CT.shape (.int k))
def bytesOfL (xs:List AVal):ByteArray:=⟨(xs.map fun x=>UInt8.ofNat x.toInt.toNat).toArray⟩
def ofBytes (s:ByteArray):List AVal:=s.data.toList.map fun b=>.int .u8 b.toNat
def lenOf (s:St) (x:AVal):Option (Bool×Int):=
 match x with
 | .str t=>some (true,(t.size:Int))
 | .ro _ _ xs=>some (true,(xs.length:Int))
 | .nils _=>some (true,0)
 | .ref K p=>(match s.at K p with|some (b,c)=>some (b&&isSl c,(c.elems.length:Int))|none=>none)
 | _=>none
def lenMap (Φ:Ctx) (s:St) (t:Nat) (v:AVal):Option (Bool×Int):=
 match Φ.mapT t,v with
 | some (_,c,_),.ref K p=>(match s.at K p with|some (b,.mp j xs)=>some (b&&decide (j=c),(xs.length:Int))|_=>none)
 | _,_=>none
def vmin (mx:Bool):List AVal→Option AVal
 | []=>none
 | .int k x::r=>go k x r
 | _=>none
where go (k:IntKind) (x:Int):List AVal→Option AVal
 | []=>some (.int k x)
 | .int j y::r=>bif decide (k=j) then go k (bif mx then (if y>x then y else x) else (if y<x then y else x)) r else none
 | _=>none
def lenT (Φ:Ctx) (t:Nat) (v:AVal):Bool:=
 match Φ.ti t with
 | some T => !T.agg&&(match v with|.str _=>(match T.cts with|[.str]=>true|_=>false)|_=>(match T.cts with|[.slice _]=>true|_=>false))
 | none=>false
def sliceT (Φ:Ctx) (t:Nat):AVal→Bool
 | .ro _ sz _=>Nat.beq sz (Φ.szOf t)
 | _=>true
def isPtrLike:AVal→Bool|.ptr _ _ _=>true|.ref _ _=>true|.nilp=>true|_=>false
def rowT:Option TI→Bool
 | some T => !T.agg&&(match T.cts with|[.slice _]=>true|_=>false)
 | none=>false
def isEql:BinOp→Bool|.eql=>true|_=>false
def boolT (Φ:Ctx) (t:Nat):AVal→Bool
 | .bool _=>(match Φ.ti t with|some T => !T.agg&&decide (T.cts=[.bool])|none=>false)
 | .ro _ _ _=>rowT (Φ.ti t)
 | .nils _=>rowT (Φ.ti t)
 | _=>true
def noKeys (v:AVal):Bool:=v.keys.isEmpty
def cellOK:AVal→Bool
 | .bool _=>true|.int _ _=>true|.str _=>true|.nilp=>true|.nils _=>true|.ro _ _ _=>true|.unk=>true
 | _=>false
def boxOK:AVal→Bool
 | .agg cs=>cs.all cellOK
 | v=>cellOK v
def deNil1:AVal→AVal|.nils sz=>.own sz []|v=>v
def deNil:AVal→AVal|.agg cs=>.agg (cs.map deNil1)|v=>deNil1 v
def optEv (Φ:Ctx) (s:St):Option Operand→Option (Option AVal)
 | none=>some none
 | some x=>match s.ev Φ 0 x with|some v=>some (some v)|none=>none
def rowOK (sz n:Nat) (vs:List AVal):Bool:=vs.all (fun v=>Nat.beq v.cells.length sz)&&Nat.ble (n*sz) 16777216
def calm (Φ:Ctx) (s:St) (o:Oper) (d:Nat):Option Calm:=
 match o.op with
 | .move x=>(s.ev Φ o.type x).bind calmV
 | .assign x=>(s.ev Φ o.type x).bind calmV
 | .pick c a b=>(match s.ev Φ 0 c with
   | some (.bool true)=>(s.ev Φ o.type a).bind calmV
   | some (.bool false)=>(s.ev Φ o.type b).bind calmV
   | _=>none)
 | .alloc t=>(match Φ.bldT t with
   | some e=>some { cond:=true,v:=.ref d [],o:=some { box:=false,c:=.mp .oth (bldMk t e ByteArray.empty) } }
   | none=>(match Φ.ti t with
   | some T=>some { cond:=true,v:=.ptr d [] none,o:=some { box:=true,c:=T.zero } }
   | none=>none))
 | .box t x=>(match s.ev Φ t x with
   | some v=>bif boxOK v then some { cond:=true,v:=.ptr d [] none,o:=some { box:=true,c:=deNil v } } else none
   | none=>none)
 | .build t parts=>(match Φ.ti t with
   | some T=>(match partsOf Φ s T.offs T.cts.length parts.toList with
     | some vs=>bif T.agg then calmV (.agg (fillCells (T.cts.map CT.zeroE) vs)) else none
     | none=>none)
   | none=>none)
 | .buildSlice t n parts=>(match Φ.ti t with
   | some { elem:=some e,cts:=[.slice sz],.. }=>(match evList Φ s e parts.toList 0 with
     | some vs=>bif Nat.beq vs.length n&&vs.all boxOK then
        some { cond:=Nat.blt 0 sz&&(rowOK sz n vs&&(Φ.ti e).isSome),v:=.ref d [],o:=some { box:=false,c:=.own sz vs } } else none
     | none=>none)
   | _=>none)
 | .load t a=>(match Φ.ti t,s.ev Φ 0 a with
   | some T,some p=>(match vload T s p with|some (b,v)=>some { cond:=b,v:=v }|none=>none)
   | _,_=>none)
 | .nilCheck x=>(match s.ev Φ 0 x with
   | some (.ptr K p off)=>calmV (.ptr K p off)
   | some (.rop z off)=>calmV (.rop z off)
   | _=>none)
 | .binOp op t x y u=>(match s.ev Φ t x,s.ev Φ u y with
   | some (.agg xs),some (.agg ys)=>(vbinA Φ op t xs ys).bind calmV
   | some (.ref K q),some (.nils _)=>bif !(rowT (Φ.ti t)&&isEql op) then none else (match s.at K q with|some (b,c)=>some { cond:=b&&isSl c && !c.elems.isEmpty,v:=.bool false }|none=>none)
   | some a,some b=>bif !(boolT Φ t a) then none else (match vbin op a b with|some (c,v)=>some { cond:=c,v:=v }|none=>none)
   | _,_=>none)
 | .unOp op t x=>(match s.ev Φ t x with
   | some a=>(match vun op a with|some v=>calmV v|none=>none)
   | none=>none)
 | .convert t u x=>(match Φ.ti t,Φ.ti u,s.ev Φ t x with
   | some _,some { agg:=false,cts:=[.int k],.. },some (.int _ n)=>calmV (.int k (k.wrap n))
   | some _,some { agg:=false,cts:=[.str],.. },some (.str z)=>calmV (.str z)
   | some { agg:=false,cts:=[.slice 1],elem:=some e,.. },some { agg:=false,cts:=[.str],.. },some v=>(match Φ.ti e,s.sl v with
     | some { agg:=false,cts:=[.int .u8],.. },some (b,c)=>some { cond:=b&&((CT.slice 1).shape c&&allInt .u8 c.elems),v:=.str (bytesOfL c.elems) }
     | _,_=>none)
   | some _,some { agg:=false,cts:=[.slice 1],elem:=some e,.. },some (.str z)=>(match Φ.ti e with
     | some { agg:=false,cts:=[.int .u8],.. }=>some { cond:=true,v:=.ref d [],o:=some { box:=false,c:=.own 1 (ofBytes z) } }
     | _=>none)
   | _,_,_=>none)
 | .makeSlice t n m=>(match Φ.ti t,s.ev Φ 0 n,s.ev Φ 0 m with
   | some { elem:=some e,cts:=[.slice sz],.. },some (.int .i64 a),some (.int .i64 c)=>(match Φ.ti e with
     | some E=>some { cond:=Nat.blt 0 sz&&(Nat.blt 0 E.bytes&&(decide (0≤a)&&(decide (a≤c)&&capB c.toNat E.bytes))),v:=.ref d [],o:=some { box:=false,c:=.own sz (List.replicate a.toNat E.zero) } }
     | none=>none)
   | _,_,_=>none)
 | .slice t x lo hi mx=>(match s.ev Φ t x,optEv Φ s lo,optEv Φ s hi,optEv Φ s mx with
   | some v,some l,some h,some m=>bif !(lenT Φ t v&&sliceT Φ t v) then none else (match vslice v l h m with|some (b,r)=>some { cond:=b,v:=r }|none=>none)
   | _,_,_,_=>none)
 | .fieldAddr t x f=>(match Φ.ti t,s.ev Φ 0 x with
   | some T,some (.ptr K p off)=>(match T.offs[f]? with|some (k,_)=>calmV (.ptr K p (some (off.getD 0+k)))|none=>none)
   | some T,some (.rop x off)=>(match T.offs[f]? with|some (k,_)=>calmV (.rop x (some (off.getD 0+k)))|none=>none)
   | _,_=>none)
 | .field t x f=>(match Φ.ti t,s.ev Φ t x with
   | some T,some (.agg cs)=>(match T.offs[f]? with
     | some (k,u)=>(match Φ.ti u with
       | some U=>bif U.agg then calmV (.agg ((cs.drop k).take U.cts.length)) else bif Nat.blt k cs.length then calmV (cs.getD k .und) else none
       | none=>none)
     | none=>none)
   | _,_=>none)
 | .indexAddr t x i=>(match s.ev Φ t x,s.ev Φ 0 i with
   | some v,some j=>(match vindexAddr (Φ.szOf t) s v j with|some (b,r)=>some { cond:=b,v:=r }|none=>none)
   | _,_=>none)
 | .index t x i=>(match s.ev Φ t x,s.ev Φ 0 i with
   | some (.str z),some (.int _ j)=>bif !(lenT Φ t (.str z)) then none else some { cond:=inB j z.size,v:=.int .u8 (byteAt z j.toNat) }
   | _,_=>none)
 | .makeMap t none=>(match Φ.mapT t with
   | some (_,c,_)=>some { cond:=true,v:=.ref d [],o:=some { box:=false,c:=.mp c [] } }
   | none=>none)
 | .lookup t x ix ok=>(match Φ.mapT t with
   | some (kt,c,E)=>(match s.ev Φ t x,s.ev Φ kt ix with
     | some (.ref K p),some k=>(match s.at K p with
       | some (b,.mp j xs)=>some { cond:=b&&(decide (j=c)&&(keyQ c k&&E.shape ((mpGet (kcode k) xs).getD E.zero))),v:=bif ok then .tup [E.co ((mpGet (kcode k) xs).getD E.zero),.bool (mpGet (kcode k) xs).isSome] else E.co ((mpGet (kcode k) xs).getD E.zero) }
       | _=>none)
     | _,_=>none)
   | none=>none)
 | .extract x i=>(match s.ev Φ 0 x with|some (.tup vs)=>calmV (vs.getD i .und)|_=>none)
 | .makeFunc (.func f) first captured=>(match evs Φ s (captured.toList.map fun _=>0) captured.toList with
   | some vs=>bif first.isEmpty&&vs.all isPtrLike then (bif Nat.ble bndBase f then none else calmV (.clo f vs)) else
      (match evs Φ s (first.toList.map fun _=>0) first.toList with
       | some us=>bif captured.isEmpty&&us.all isPtrLike then calmV (.clo (bndBase+f) us) else none
       | none=>none)
   | none=>none)
 | .call { callee:=.builtin .len,args,argTypes }=>(match evs Φ s argTypes.toList args.toList with
   | some [v]=>(match lenMap Φ s (argTypes.getD 0 0) v with
     | some (b,n)=>some { cond:=b,v:=.int .i64 n }
     | none=>bif !(lenT Φ (argTypes.getD 0 0) v) then none else (match lenOf s v with|some (b,n)=>some { cond:=b,v:=.int .i64 n }|none=>none))
   | _=>none)
 | .call { callee:=.builtin .max,args,argTypes }=>(match evs Φ s argTypes.toList args.toList with
   | some vs=>(vmin true vs).bind calmV
   | _=>none)
 | .call { callee:=.builtin .min,args,argTypes }=>(match evs Φ s argTypes.toList args.toList with
   | some vs=>(vmin false vs).bind calmV
   | _=>none)
 | .call { callee:=.value (.func f),args,argTypes }=>(match Φ.idxB with
   | some g=>bif Nat.beq f g then (match evs Φ s argTypes.toList args.toList with
      | some [.str z,.int .u8 c]=>calmV (.int .i64 (idxOf z c))
      | _=>none) else none
   | none=>none)
 | _=>none
def fitsC:CT→AVal→Bool
 | .bool,.bool _=>true
 | .int k,.int j _=>decide (k=j)
 | .str,.str _=>true
 | .slice sz,.ro _ s _=>Nat.beq s sz
 | .slice _,.ref _ _=>true
 | .slice sz,.nils s=>Nat.beq s sz
 | .ptr,.ptr _ _ _=>true
 | .ptr,.nilp=>true
 | .oth,.clo _ _=>true
 | .oth,.ref _ _=>true
 | _,_=>false
mutual
def pureV:AVal→Bool
 | .bool _|.int _ _|.str _|.nilp|.nils _|.ro _ _ _|.own _ _|.und|.unk=>true
 | .agg cs=>pureVs cs
 | _=>false
def pureVs:List AVal→Bool
 | []=>true
 | c::cs=>pureV c&&pureVs cs
end
def pureR:AVal→Bool
 | .tup cs=>(match cs with|[c]=>pureV c|_=>false)
 | v=>pureV v
def pureRs:List AVal→Bool
 | []=>true
 | c::cs=>pureR c&&pureRs cs
def storeAt (s:St) (K:Nat) (p:List Nat) (off:Option Nat) (many:Bool) (x:AVal):Option (Bool×St):=
 match s.take x with
 | none=>none
 | some (v,s1)=>
   match s1.obj K with
   | none=>none
   | some o=>
     bif o.c.thru p && !(pureV v) then none else
     let y:=o.c.get p
     let kp:=bif o.box&&(aggQ o.c&&o.c.thru p) then p.take 1 else []
     bif many||off.isSome then
      some (o.c.okp p&&(aggQ y&&Nat.ble (off.getD 0+v.cells.length) y.cells.length),
       { (s1.killAt K kp).setObj K { o with c:=o.c.put p (.agg (setMany y.cells (off.getD 0) v.cells)) } with kr:=bif o.c.thru p then s1.kr else K::s1.kr })
     else
      some (o.c.okp p && !(aggQ y),{ (s1.killAt K kp).setObj K { o with c:=o.c.put p v } with kr:=bif o.c.thru p then s1.kr else K::s1.kr })
def vstore (T:TI) (s:St) (a x:AVal):Option (Bool×St):=
 match a with
 | .ptr K p off=>
   match T.agg,T.cts,x with
   | true,cs,.agg vs=>bif zipS fitsC cs vs then storeAt s K p off true x else none
   | false,[c],v=>bif fitsC c v then storeAt s K p off false v else none
   | _,_,_=>none
 | _=>none
def St.base (s:St) (x:AVal) (sz:Nat):Option (Bool×List AVal×St):=
 match x with
 | .ro true z xs=>bif Nat.beq z sz then some (true,xs,s) else none
 | .nils z=>bif Nat.beq z sz then some (true,[],s) else none
 | .ref K p=>(match s.pull K p with
   | none=>none
   | some (b,c,s1)=>some (b&&CT.shOwn (.slice sz) c,c.elems,s1))
 | _=>none
def notRo:AVal→Bool|.ro _ _ _=>false|_=>true
def plainL (xs:List AVal):Bool:=xs.all fun x=>match x with|.int _ _=>true|.str _=>true|.bool _=>true|_=>false
def St.more (s:St) (x:AVal) (sz:Nat):Option (Bool×List AVal×St):=
 match x with
 | .ro _ z xs=>bif Nat.beq z sz then some (true,xs,s) else none
 | .nils _=>some (true,[],s)
 | .ref _K []=>(match s.take x with
   | some (c,s1)=>some (CT.shOwn (.slice sz) c,c.elems,s1)
   | none=>none)
 | .ref K (i::q)=>(match s.obj K with
   | some o=>some (o.c.okp (i::q)&&(CT.shOwn (.slice sz) (o.c.get (i::q))&&plainL (o.c.get (i::q)).elems),(o.c.get (i::q)).elems,s)
   | none=>none)
 | .str z=>bif Nat.beq sz 1 then some (true,ofBytes z,s) else none
 | _=>none
def mapSet (Φ:Ctx) (s:St) (o:Oper) (t:Nat) (m k v:Operand):Option (Bool×St):=
 match Φ.mapT t with
 | some (kt,c,E)=>
   (match s.ev Φ t m,s.ev Φ kt k,s.ev Φ (((Φ.ti t).bind (·.elem)).getD 0) v with
    | some (.ref K q),some kv,some x=>
      (match s.obj K with
       | some u=>(match u.c.get q with
         | .mp j xs=>bif o.dst.isNone then
            some (u.c.okp q&&(decide (j=c)&&(keyQ c kv&&E.shape x)),s.setObj K { u with c:=u.c.put q (.mp j (mpIns kv x xs)) }) else none
         | _=>none)
       | none=>none)
    | _,_,_=>none)
 | none=>none
def loud (Φ:Ctx) (s:St) (o:Oper) (d:Nat):Option (Bool×St):=
 match o.op with
 | .mapUpdate t m k v=>mapSet Φ s o t m k v
 | .insert t m k v=>mapSet Φ s o t m k v
 | .store t a x=>
   (match Φ.ti t,s.ev Φ 0 a,s.ev Φ t x with
    | some T,some p,some v=>bif o.dst.isNone then vstore T s p v else none
    | _,_,_=>none)
 | .box t x=>(match s.ev Φ t x with
   | some v=>(match s.take v with
     | some (c,s1)=>some (true,((s1.drop d).setObj d { box:=true,c:=c }).set d (.ptr d [] none))
     | none=>none)
   | none=>none)
 | .slice t x none (some h) mx=>(match s.ev Φ t x,s.ev Φ 0 h,optEv Φ s mx with
   | some (.ref K q),some (.int .i64 n),some m=>bif !(lenT Φ t (.ref K q)) then none else (match s.base (.ref K q) (Φ.szOf t) with
     | some (b,xs,s1)=>some (b&&(Nat.blt 0 (Φ.szOf t)&&(decide (0≤n)&&(decide (n≤(xs.length:Int))&&(match m with|none=>true|some (.int _ j)=>decide (j=n)|_=>false)))),((s1.drop d).setObj d { box:=false,c:=.own (Φ.szOf t) (xs.take n.toNat) }).set d (.ref d []))
     | none=>none)
   | _,_,_=>none)
 | .buildSlice t n parts=>(match Φ.ti t with
   | some { elem:=some e,cts:=[.slice sz],.. }=>(match evList Φ s e parts.toList 0 with
     | some vs=>bif Nat.beq vs.length n then
        (match s.takeL vs with
         | some (cs,s1)=>some (Nat.blt 0 sz&&(rowOK sz n cs&&(pureVs cs&&(Φ.ti e).isSome)),((s1.drop d).setObj d { box:=false,c:=.own sz cs }).set d (.ref d []))
         | none=>none) else none
     | none=>none)
   | _=>none)
 | .call { callee:=.builtin .append,args,argTypes }=>
   (match Φ.ti (argTypes.getD 0 0),evs Φ s argTypes.toList args.toList with
    | some { elem:=some e,cts:=[.slice sz],.. },some [x,y]=>
      bif !(Nat.beq argTypes.size 2&&lenT Φ (argTypes.getD 1 0) y) then none else
      (match Φ.ti e with
       | none=>none
       | some E=>
         (match s.more y sz with
          | none=>none
          | some (b1,ys,s1)=>
            (match s1.base x sz with
             | none=>none
             | some (b2,xs,s2)=>
               some (b1&&(b2&&((notRo x||xs.isEmpty || !ys.isEmpty)&&(Nat.blt 0 sz&&(Nat.blt 0 E.bytes&&(Nat.ble E.bytes 1000000&&capB (xs.length+ys.length) E.bytes))))),
                ((s2.drop d).setObj d { box:=false,c:=.own sz (xs++ys) }).set d (.ref d [])))))
    | _,_=>none)
 | _=>none
end Go.VK
namespace Go.VK
open AVal
def delAll {α:Type} (l:List (Nat×α)):List Nat→List (Nat×α)
 | []=>l
 | K::r=>delAll (del l K) r
inductive Pass where
 | whole (K:Nat)
 | part (K:Nat) (p:List Nat)
 deriving Inhabited
def passKeys:List AVal→List Nat→List Nat
 | [],acc=>acc
 | .ptr K _ _::r,acc=>passKeys r (bif mem K acc then acc else acc++[K])
 | .clo _ cs::r,acc=>passKeys r (keysIn cs acc)
 | _::r,acc=>passKeys r acc
where keysIn:List AVal→List Nat→List Nat
 | [],acc=>acc
 | .ptr K _ _::r,acc=>keysIn r (bif mem K acc then acc else acc++[K])
 | _::r,acc=>keysIn r acc
def pos (K:Nat):List Nat→Nat→Nat
 | [],i=>i
 | J::r,i=>bif Nat.beq J K then i else pos K r (i+1)
def renPtr (ks:List Nat):AVal→AVal
 | .ptr K p off=>.ptr (pos K ks 0) p off
 | v=>v
def renArg (ks:List Nat):AVal→AVal
 | .ptr K p off=>.ptr (pos K ks 0) p off
 | .clo f cs=>.clo f (cs.map (renPtr ks))
 | v=>v
def isPtr:AVal→Bool|.ptr _ _ _=>true|.clo _ _=>true|.nilp=>true|_=>false
def capOK:AVal→Bool|.ptr _ _ _=>true|.nilp=>true|_=>false
def oneArg (Φ:Ctx) (s:St) (ks:List Nat) (t:Nat) (x:AVal):Option (Bool×AVal):=
 bif isPtr x then some ((match x with|.clo _ cs=>cs.all capOK|_=>true),renArg ks x) else argv Φ s t x
def lentAgg:List AVal→Bool
 | []=>true
 | .ref _ _::r=>lentAgg r
 | x::r=>cellOK x&&lentAgg r
def lentIn:List AVal→List (Nat×List Nat)
 | []=>[]
 | .ref K p::r=>(K,p)::lentIn r
 | _::r=>lentIn r
def lentOf (muts:List Nat):Nat→List AVal→List (Nat×List Nat)
 | _,[]=>[]
 | i,.ref K p::r=>bif mem i muts then (K,p)::lentOf muts (i+1) r else lentOf muts (i+1) r
 | i,.agg cs::r=>bif mem i muts then lentIn cs++lentOf muts (i+1) r else lentOf muts (i+1) r
 | i,_::r=>lentOf muts (i+1) r
def lentCells:Nat→List AVal→Nat×List AVal
 | j,[]=>(j,[])
 | j,.ref _ _::r=>let (m,vs):=lentCells (j+1) r;(m,.ref j []::vs)
 | j,x::r=>let (m,vs):=lentCells j r;(m,x::vs)
def allArgs (Φ:Ctx) (s:St) (ks:List Nat) (muts:List Nat):Nat→Nat→List Nat→List AVal→Option (Bool×List AVal)
 | _,_,_,[]=>some (true,[])
 | i,j,t::ts,x::xs=>
   bif mem i muts then
    (match x with
     | .ref _ _=>(match allArgs Φ s ks muts (i+1) (j+1) ts xs with
       | some (d,vs)=>some (d,.ref j []::vs)
       | none=>none)
     | .agg cs=>(match lentCells j cs with
       | (m,us)=>(match allArgs Φ s ks muts (i+1) m ts xs with
         | some (d,vs)=>some (lentAgg cs&&d,.agg us::vs)
         | none=>none))
     | _=>none)
   else
    (match oneArg Φ s ks t x,allArgs Φ s ks muts (i+1) j ts xs with
     | some (b,v),some (d,vs)=>some (b&&d,v::vs)
     | _,_=>none)
 | _,_,[],_::_=>none
def addKeys:List Nat→List Nat→List Nat
 | [],acc=>acc
 | K::r,acc=>addKeys r (bif mem K acc then acc else acc++[K])
def kidsOf (s:St):List Nat→List Nat
 | []=>[]
 | K::r=>match s.obj K with|some o=>o.c.keys++kidsOf s r|none=>kidsOf s r
def passMore (s:St):Nat→List Nat→List Nat
 | 0,ks=>ks
 | n+1,ks=>match kidsOf s ks with|[]=>ks|j::js=>passMore s n (addKeys (j::js) ks)
def tieP (ks qs:List Nat):AVal→Bool|.ptr K p _=>p.isEmpty&&mem K ks|.ref K p=>p.isEmpty&&mem K qs|.nilp=>true|_=>false
def tie1 (ks qs:List Nat):AVal→Bool
 | .ptr K p _=>p.isEmpty&&mem K ks
 | .clo _ cs=>cs.all (tieP ks qs)
 | v=>noKeys v
def tieV (ks qs:List Nat):AVal→Bool|.agg cs=>cs.all (tie1 ks qs)|v=>tie1 ks qs v
def valKs (O:Nat→Option VObj) (ks:List Nat):List Nat:=ks.filter fun K=>match O K with|some o => !o.box|none=>false
def lowP (n:Nat):AVal→Bool|.ref K _=>Nat.blt K (passBase+n)|_=>true
def low1 (n:Nat):AVal→Bool|.clo _ cs=>cs.all (lowP n)|_=>true
def lowV (n:Nat):AVal→Bool|.agg cs=>cs.all (low1 n)|v=>low1 n v
def renP (f:Nat→Nat):AVal→AVal|.ptr K p off=>.ptr (f K) p off|.ref K p=>.ref (f K) p|v=>v
def ren1 (f:Nat→Nat):AVal→AVal|.ptr K p off=>.ptr (f K) p off|.clo g cs=>.clo g (cs.map (renP f))|v=>v
def renC (f:Nat→Nat):AVal→AVal|.agg cs=>.agg (cs.map (ren1 f))|v=>ren1 f v
def renVO (f:Nat→Nat) (o:VObj):VObj:={ o with c:=renC f o.c }
def toN (ks:List Nat) (K:Nat):Nat:=passBase+pos K ks 0
def ofN (ks:List Nat) (K:Nat):Nat:=ks.getD (K-passBase) 0
def objsOf (s:St) (ka:List Nat):List Nat→Option (List VObj)
 | []=>some []
 | K::r=>match s.obj K,objsOf s ka r with|some o,some os=>bif tieV ka (valKs s.obj ka) o.c then some (renVO (toN ka) o::os) else none|_,_=>none
def lend (s:St):List (Nat×List Nat)→Option (Bool×List VObj×St)
 | []=>some (true,[],s)
 | (K,p)::r=>
   match s.obj K with
   | none=>none
   | some o=>match lend ((s.killInto K).setObj K { o with c:=o.c.put p .und }) r with
     | some (b,os,s')=>some (o.c.okp p&&(isOwn (o.c.get p)&&b),{ box:=false,c:=o.c.get p }::os,s')
     | none=>none
where isOwn:AVal→Bool|.own _ _=>true|.mp _ _=>true|_=>false
mutual
def like:AVal→AVal→AVal
 | .bool _,v=>.bool v.toBool
 | .int k _,v=>.int k v.toInt
 | .str _,v=>.str v.toStr
 | .own sz _,v=>.own sz v.elems
 | .ro _ sz _,v=>.ro false sz v.elems
 | .nils sz,_=>.nils sz
 | .agg cs,v=>.agg (likeL v 0 cs)
 | .nilp,_=>.nilp
 | .unk,_=>.unk
 | .mp kc _,v=>.mp kc v.ents
 | .ptr K p off,_=>.ptr K p off
 | .clo f cs,_=>.clo f cs
 | _,_=>.und
def likeL (v:AVal):Nat→List AVal→List AVal
 | _,[]=>[]
 | i,c::cs=>like c (v.cell i)::likeL v (i+1) cs
end
def samePs:List AVal→List AVal→Bool
 | [],[]=>true
 | .ptr K p off::r,.ptr J q o::t=>Nat.beq K J&&(decide (p=q)&&(decide (off=o)&&samePs r t))
 | .nilp::r,.nilp::t=>samePs r t
 | .ref K p::r,.ref J q::t=>Nat.beq K J&&(decide (p=q)&&samePs r t)
 | _,_=>false
mutual
def skel:AVal→AVal→Bool
 | .bool _,.bool _=>true
 | .int k _,.int j _=>decide (k=j)
 | .str _,.str _=>true
 | .own sz _,.own z _=>Nat.beq sz z
 | .ro _ sz _,.ro _ z _=>Nat.beq sz z
 | .agg cs,.agg ds=>skelL cs ds
 | .nilp,.nilp=>true
 | .unk,.unk=>true
 | .mp kc _,.mp j _=>decide (kc=j)
 | .ptr K p off,.ptr J q o=>Nat.beq K J&&(decide (p=q)&&decide (off=o))
 | .clo f cs,.clo g ds=>Nat.beq f g&&samePs cs ds
 | .und,_=>true
 | _,_=>false
def skelL:List AVal→List AVal→Bool
 | [],[]=>true
 | c::cs,d::ds=>skel c d&&skelL cs ds
 | _,_=>false
end
def notUnd:AVal→Bool|.und=>false|_=>true
def backWhole (s:St):List Nat→List VObj→Nat→Bool×St
 | [],_,_=>(true,s)
 | K::r,os,i=>
   match s.obj K with
   | none=>(false,s)
   | some o=>
     let n:=(os.getD i default)
     let (b,s'):=backWhole { (s.killInto K).setObj K { o with c:=like o.c n.c } with kr:=bif o.box then K::s.kr else s.kr } r os (i+1)
     (notUnd o.c&&(skel o.c n.c&&b),s')
def backPart (s:St):List (Nat×List Nat)→List VObj→List VObj→Nat→Bool×St
 | [],_,_,_=>(true,s)
 | (K,p)::r,olds,os,i=>
   match s.obj K,olds with
   | some o,old::olds=>
     let n:=(os.getD i default)
     let (b,s'):=backPart ((s.killInto K).setObj K { o with c:=o.c.put p (likeOwn old.c n.c) }) r olds os (i+1)
     (o.c.okp p&&(!(aggQ (o.c.get p))&&(skelOwn old.c n.c&&b)),s')
   | _,_=>(false,s)
where
 likeOwn:AVal→AVal→AVal|_,.und=>.und|.own sz _,v=>.own sz v.elems|.mp kc _,v=>.mp kc v.ents|_,v=>v
 skelOwn:AVal→AVal→Bool|_,.und=>true|.own sz _,.own z _=>Nat.beq sz z|.mp kc _,.mp j _=>decide (kc=j)|_,_=>false
def callee (Φ:Ctx) (s:St) (c:Call):Option (Nat×List Nat×List AVal):=
 match c.callee with
 | .value f=>
   (match s.ev Φ 0 f,evs Φ s c.argTypes.toList c.args.toList with
    | some (.clo f caps),some vs=>bif Nat.ble bndBase f then some (f-bndBase,caps.map (fun _=>0)++c.argTypes.toList,caps++vs) else some (f,c.argTypes.toList++caps.map (fun _=>0),vs++caps)
    | _,_=>none)
 | _=>none
def lends1 (s:St):AVal→Bool
 | .ref K p=>(match s.obj K with|some o=>hasOwn (o.c.get p)|none=>true)
 | _=>false
def lendsAny (s:St):List AVal→Bool
 | []=>false
 | .agg cs::r=>lendsL cs||lendsAny s r
 | x::r=>lends1 s x||lendsAny s r
where
 lendsL:List AVal→Bool
 | []=>false
 | c::cs=>lends1 s c||lendsL cs
def unlent (muts:List Nat):Nat→List AVal→List AVal
 | _,[]=>[]
 | i,x::r=>bif mem i muts then unlent muts (i+1) r else x::unlent muts (i+1) r
structure Sent where
 fn:FnI
 f:Nat
 cond:Bool
 args:List AVal
 ks:List Nat
 lent:List (Nat×List Nat)
 objs:List VObj
 olds:List VObj
 st:St
 lends:Bool
 rf:List (Nat×List Nat)
def refsIn:List AVal→List (Nat×List Nat)
 | []=>[]
 | .ref K p::r=>(K,p)::refsIn r
 | .agg cs::r=>lentIn cs++refsIn r
 | _::r=>refsIn r
def St.freeze (s:St):List (Nat×List Nat)→St
 | []=>s
 | (K,p)::r=>match s.obj K with
   | some o=>(s.setObj K { o with c:=o.c.put p (o.c.get p).asRo }).freeze r
   | none=>s.freeze r
def isSlice:CT→Bool|.slice _=>true|_=>false
def FnI.ro (Φ:Ctx) (fn:FnI):Bool:=fn.frz&&(fn.sink||fn.rts.any fun t=>match Φ.ti t with|some T=>T.cts.any isSlice|none=>true)
def lentApart:List (Nat×List Nat)→Bool
 | []=>true
 | (K,q)::r=>r.all (fun x => !(Nat.beq x.1 K) || !(pre q x.2||pre x.2 q))&&lentApart r
def vsend0 (Φ:Ctx) (s:St) (c:Call):Option Sent:=
 match callee Φ s c with
 | none=>none
 | some (f,ts,xs)=>
   match lk Φ.fns f with
   | none=>none
   | some fn=>
     let lent:=lentOf fn.muts 0 xs
     let un:=unlent fn.muts 0 xs
     match lend s lent with
     | none=>none
     | some (d,ls,s1)=>
       let ks:=passMore s1 3 (passKeys xs [])
       let s2:={ s1 with objs:=delAll s1.objs ks }
       match allArgs Φ s2 ks fn.muts 0 ks.length ts xs,objsOf s1 ks ks with
       | some (b,vs),some os=>
         some { fn,f,cond:=b&&(d&&(lentApart lent&&lent.all fun x => !(mem x.1 ks))),args:=vs,ks,lent,objs:=os++ls,olds:=ls,st:=s1,lends:=lendsAny s2 un,rf:=refsIn un }
       | _,_=>none
def refSz:List CT→List AVal→List Nat
 | c::cs,.ref _ _::r=>(match c with|.slice sz=>sz|_=>0)::refSz cs r
 | _::cs,_::r=>refSz cs r
 | _,_=>[]
def lentSz (Φ:Ctx) (muts:List Nat):Nat→List Nat→List AVal→List Nat
 | i,t::ts,.ref _ _::r=>bif mem i muts then Φ.szOf t::lentSz Φ muts (i+1) ts r else lentSz Φ muts (i+1) ts r
 | i,t::ts,.agg cs::r=>bif mem i muts then refSz (match Φ.ti t with|some T=>T.cts|none=>[]) cs++lentSz Φ muts (i+1) ts r else lentSz Φ muts (i+1) ts r
 | i,_::ts,_::r=>lentSz Φ muts (i+1) ts r
 | _,_,_=>[]
def mpQ:AVal→Bool|.mp _ _=>true|_=>false
def normLent:List Nat→List VObj→Bool×List VObj
 | _,[]=>(true,[])
 | [],o::os=>(false,o::os)
 | sz::zs,o::os=>bif Nat.beq sz 0 then (mpQ o.c&&(normLent zs os).1,o::(normLent zs os).2) else
    ((CT.slice sz).shOwn o.c&&(normLent zs os).1,{ o with c:=.own sz o.c.elems }::(normLent zs os).2)
def Sent.norm (x:Sent) (zs:List Nat):Sent:=
 { x with cond:=x.cond&&(normLent zs x.olds).1,objs:=x.objs.take x.ks.length++(normLent zs x.olds).2,olds:=(normLent zs x.olds).2 }
def seeArgs (Φ:Ctx) (s:St) (rops:List Nat):Nat→List Nat→List AVal→Option (Bool×List AVal)
 | _,_,[]=>some (true,[])
 | i,t::ts,x::xs=>
   match (bif mem i rops then (match x with
    | .ptr K p off=>(match p,off,s.obj K with
      | [],none,some o=>bif o.box then some (pureV o.c,.rop (asRo o.c) none) else none
      | _,_,_=>none)
    | .rop z off=>some (true,.rop z off)
    | _=>none) else (bif boxOK x then argv Φ s t x else none)),seeArgs Φ s rops (i+1) ts xs with
   | some (b,v),some (d,vs)=>some (b&&d,v::vs)
   | _,_=>none
 | _,[],_::_=>none
def glance (Φ:Ctx) (s:St) (c:Call):Option Sent:=
 match callee Φ s c with
 | none=>none
 | some (f,ts,xs)=>
   match lk Φ.fns f with
   | none=>none
   | some fn=>bif fn.rops.isEmpty then none else
     match seeArgs Φ s fn.rops 0 ts xs with
     | some (b,vs)=>some { fn,f,cond:=b && !(fn.ro Φ && !fn.keep),args:=vs,ks:=[],lent:=[],objs:=[],olds:=[],st:=s,lends:=true,rf:=[] }
     | none=>none
def vsendL (Φ:Ctx) (s:St) (c:Call):Option Sent:=
 match vsend0 Φ s c with
 | none=>none
 | some x=>(match callee Φ s c with
   | some (_,ts,xs)=>some (x.norm (lentSz Φ x.fn.muts 0 ts xs))
   | none=>none)
def vsend (Φ:Ctx) (s:St) (c:Call):Option Sent:=
 match glance Φ s c with
 | some x=>some x
 | none=>vsendL Φ s c
def compKey (d i c:Nat):Nat:=1000000+(d*64+(i*16+c))
def holdCells (s:St) (d i:Nat):Nat→List AVal→St×List AVal
 | _,[]=>(s,[])
 | c,.own sz xs::r=>
   let K:=compKey d i c
   let (s',vs):=holdCells ((s.drop K).setObj K { box:=false,c:=.own sz xs }) d i (c+1) r
   (s',.ref K []::vs)
 | c,v::r=>let (s',vs):=holdCells s d i (c+1) r;(s',v::vs)
def holdV (s:St) (d i:Nat):AVal→St×AVal
 | .own sz xs=>let K:=compKey d i 15;((s.drop K).setObj K { box:=false,c:=.own sz xs },.ref K [])
 | .agg cs=>let (s',vs):=holdCells s d i 0 cs;(s',.agg vs)
 | .tup cs=>(match cs with
   | [c]=>let K:=compKey d i 15;((s.drop K).setObj K { box:=true,c },.ptr K [] none)
   | _=>(s,.tup cs))
 | v=>(s,v)
def holdAll (s:St) (d:Nat):Nat→List AVal→St×List AVal
 | _,[]=>(s,[])
 | i,v::r=>let (s1,v'):=holdV s d i v;let (s2,vs):=holdAll s1 d (i+1) r;(s2,v'::vs)
def holdOK (vs:List AVal):Bool:=Nat.ble vs.length 4&&vs.all fun v=>Nat.ble v.cells.length 15
def resE:List AVal→AVal|[u]=>u|us=>.tup us
def vrecv (Φ:Ctx) (dst:Option Nat) (x:Sent) (rs:List AVal) (os0:List VObj):Option (Bool×St):=
 let os:=os0.map (renVO (ofN x.ks))
 match resvs Φ x.fn.frz 0 x.fn.rts rs with
 | none=>none
 | some (b,vs)=>
   let (b1,s1):=backWhole x.st x.ks os 0
   let (b2,s2):=backPart s1 x.lent x.olds os x.ks.length
   let s2:=bif x.fn.ro Φ && !x.fn.keep then s2.freeze x.rf else s2
   let s4:=match dst with
    | none=>s2
    | some d=>
      let (s3,us):=holdAll s2 d 0 vs
      s3.set d (resE us)
   some (b&&(holdOK vs&&Nat.beq rs.length x.fn.rts.length&&(b1&&(b2&&(bif x.fn.ro Φ && !x.fn.keep then x.lent.all fun y => !(x.rf.any fun z=>Nat.beq y.1 z.1) else (!x.lends||(noRoL rs&&os0.all fun o=>noRo o.c)))))&&os0.all fun o=>lowV x.ks.length o.c),s4)
inductive Out where
 | normal|exit (id:Nat)|ret
 deriving Inhabited
def sel {α:Type}:List Nat→List (Nat×α)→List (Nat×α)
 | [],_=>[]
 | t::r,l=>match lk l t with|some v=>(t,v)::sel r l|none=>sel r l
def dedup:List Nat→List Nat→List Nat
 | [],acc=>acc.reverse
 | K::r,acc=>bif mem K acc then dedup r acc else dedup r (K::acc)
def envKeys:List (Nat×AVal)→List Nat
 | []=>[]
 | (_,v)::r=>v.keys++envKeys r
def objKeys:List (Nat×VObj)→List Nat
 | []=>[]
 | (_,o)::r=>o.c.keys++objKeys r
def reach (l:List (Nat×VObj)):Nat→List Nat→List Nat
 | 0,ks=>ks
 | n+1,ks=>match objKeys (sel ks l) with
   | []=>ks
   | js=>reach l n (dedup (ks++js) [])
def St.forget (s:St) (ks:List Nat):St:=
 let b:=fun v:AVal=>ks.any fun K=>mem K v.keys
 { s with env:=killIn b s.env,objs:=killObjs b (delAll s.objs ks) }
def cellKeys (d i:Nat):Nat→List CT→List Nat
 | _,[]=>[]
 | c,.slice _::r=>compKey d i c::cellKeys d i (c+1) r
 | c,_::r=>cellKeys d i (c+1) r
def resKeys (Φ:Ctx) (frz:Bool) (d:Nat):Nat→List Nat→List Nat
 | _,[]=>[]
 | i,t::r=>(match Φ.ti t with
   | some T=>bif T.agg then (bif frz then [] else cellKeys d i 0 T.cts) else (match T.cts with|[.slice _]=>bif frz then [] else [compKey d i 15]|[.ptr]=>[compKey d i 15]|_=>[])
   | none=>[])++resKeys Φ frz d (i+1) r
def keysMade (Φ:Ctx) (o:Oper):List Nat:=
 match o.dst with
 | none=>[]
 | some d=>match o.op with
   | .call { callee:=.builtin _,.. }=>[d]
   | .call { callee:=.value (.func f),.. }=>(match lk Φ.fns f with
     | some fn=>resKeys Φ fn.frz d 0 fn.rts
     | none=>[])
   | .call { callee:=.value (.tmp _),.. }=>resKeys Φ false d 0 [o.type]
   | .call _=>[]
   | op=>bif makes op then [d] else []
def makers (Φ:Ctx):List Oper→List Nat
 | []=>[]
 | o::r=>keysMade Φ o++makers Φ r
structure DX where
 vals:List AVal:=[]
 rd:List (Nat×Option Nat):=[]
 wr:Option (List (Nat×Option Nat)):=none
 ka:List Nat:=[]
 ki:List (Nat×List Nat):=[]
 kr:List Nat:=[]
 ptr:Option (Nat×List Nat):=none
 deriving Inhabited
structure Done where
 i:Nat
 calm:Bool
 made:List Nat
 ment:List Nat
 hit:Bool
 more:DX:={}
 deriving Inhabited
def ancOf (acc:List Nat) (o:Oper):Nat:=
 o.after.toList.foldl (fun s e=>bif Region.binds .any e then (s ||| 2 ^ e.on) ||| acc.getD e.on 0 else s) 0
def ancs:List Oper→List Nat→List Nat
 | [],acc=>acc
 | o::r,acc=>ancs r (acc++[ancOf acc o])
def edgesOk:List Oper→Nat→Bool
 | [],_=>true
 | o::r,i=>o.after.toList.all (fun e => !(Region.binds .any e)||Nat.blt e.on i)&&edgesOk r (i+1)
def isBefore (bf:List Nat) (i j:Nat):Bool:=(bf.getD j 0).testBit i
def apart:List Nat→List Nat→Bool
 | [],_=>true
 | K::r,l => !(mem K l)&&apart r l
def dstOf (ops:Array Oper) (i:Nat):Option Nat:=(ops[i]?).bind (·.dst)
def opTmps (o:Op):List Nat:=o.operands.toList.filterMap fun|.tmp t=>some t|_=>none
def looks (ops:Array Oper) (i:Nat):List Nat:=
 match ops[i]? with
 | some o=>(match o.guard with|some (g,_)=>(match dstOf ops g with|some t=>t::opTmps o.op|none=>opTmps o.op)|none=>opTmps o.op)
 | none=>[]
def optMem (d:Option Nat) (l:List Nat):Bool:=match d with|some d=>mem d l|none=>false
def optSame (a b:Option Nat):Bool:=match a,b with|some a,some b=>Nat.beq a b|_,_=>false
mutual
def anyDead (b:AVal→Bool):AVal→Bool
 | .ptr K p off=>b (.ptr K p off)
 | .ref K p=>b (.ref K p)
 | .clo f cs=>b (.clo f cs)
 | .agg cs=>anyDeads b cs
 | .tup cs=>anyDeads b cs
 | _=>false
def anyDeads (b:AVal→Bool):List AVal→Bool
 | []=>false
 | c::cs=>anyDead b c||anyDeads b cs
end
def wrOk (l:List (Nat×Option Nat)) (r:Nat×Option Nat):Bool:=
 l.all fun z => !(Nat.beq z.1 r.1)||(match z.2,r.2 with|some a,some b => !(Nat.beq a b)|_,_=>false)
def rdOk (x y:Done):Bool:=
 x.more.rd.all fun r => !(mem r.1 y.ment)||((y.calm && !(mem r.1 y.made))||(match y.more.wr with|some l=>wrOk l r|none=>false))
def valOk (x y:Done):Bool:=x.more.vals.all fun v => !(anyDead (AVal.dead y.more.ka y.more.ki y.more.kr) v)
def freeOk (ops:Array Oper) (x y:Done):Bool:=
 (!(optMem (dstOf ops x.i) (looks ops y.i))&&(!(optMem (dstOf ops y.i) (looks ops x.i))&&(!(optSame (dstOf ops x.i) (dstOf ops y.i)) &&
  (!x.hit&&((x.calm&&y.calm&&(apart x.made y.ment&&apart y.made x.ment))||apart x.ment y.ment))))) &&
 (valOk x y&&(valOk y x&&(rdOk x y&&rdOk y x)))
def bareQ (o:Option Oper):Bool:=
 match o with
 | some o=>o.guard.isNone&&(o.dst.isNone&&(match o.op with|.store _ (.tmp _) _=>true|_=>false))
 | none=>false
def idxQ (ops:Array Oper) (u x y:Nat):Bool:=
 match ops[u]?,ops[x]? with
 | some a,some b=>a.guard.isNone&&((match a.op,a.dst,b.op with|.indexAddr _ _ _,some t,.store _ (.tmp r) _=>Nat.beq t r && !(mem t (looks ops y))|_,_,_=>false) &&
    b.after.toList.any fun e=>Region.binds .any e&&Nat.beq e.on u)
 | _,_=>false
def pairOk (ops:Array Oper) (bf:List Nat) (x y:Done):Bool:=
 Nat.beq (y.i+1) ops.size&&(Nat.blt x.i y.i&&(bareQ ops[x.i]? && (bareQ ops[y.i]? &&
  ((match x.more.ptr,y.more.ptr with|some (K,_),some (J,[]) => !(Nat.beq K J)|_,_=>false) &&
   (List.range y.i).all fun z=>Nat.beq z x.i||(isBefore bf z y.i||(Nat.beq (z+1) x.i&&idxQ ops z x.i y.i))))))
def makeOk (ops:Array Oper) (bf:List Nat) (u y:Done):Bool:=
 Nat.beq (y.i+1) ops.size&&(Nat.blt (u.i+1) y.i&&(bareQ ops[u.i+1]? && (bareQ ops[y.i]? && ((match y.more.ptr with|some (_,[])=>true|_=>false)&&(idxQ ops u.i (u.i+1) y.i &&
  (List.range y.i).all fun z=>Nat.beq z u.i||(Nat.beq z (u.i+1)||isBefore bf z y.i))))))
def orderOk (ops:Array Oper) (bf:List Nat):List Done→Bool
 | []=>true
 | y::r=>r.all (fun x=>isBefore bf x.i y.i||(freeOk ops x y||(pairOk ops bf x y||makeOk ops bf x y)))&&orderOk ops bf r
def St.part (s:St) (o:Op):St:=
 let e:=sel (dedup (opTmps o) []) s.env
 { env:=e,objs:=sel (reach s.objs 3 (dedup (envKeys e) [])) s.objs }
structure Eff where
 cond:Bool
 calm:Bool
 v:Option AVal
 objs:List (Nat×VObj)
 ka:List Nat:=[]
 ki:List (Nat×List Nat):=[]
 kr:List Nat:=[]
def subM (M:List Nat):List Nat→Bool
 | []=>true
 | K::r=>mem K M&&subM M r
def okVal (M:List Nat):Option AVal→Bool
 | none=>true
 | some v=>subM M v.keys
def hitIn (b:AVal→Bool) (M:List Nat) (calm:Bool) (l:List (Nat×VObj)):List (Nat×VObj)→Bool
 | []=>false
 | (K,_)::r=>(match lk l K with|some o => !(mem K M && !calm)&&anyDead b o.c|none=>false)||hitIn b M calm l r
def okEff (p:St) (M:List Nat) (e:Eff):Bool:=
 subM M (e.objs.map (·.1))&&(subM M (objKeys e.objs)&&(subM M e.ka&&(subM M (kk e.ki)&&(subM M e.kr&&(okVal M e.v &&
  (subM (p.objs.map (·.1)) (envKeys p.env)&&(subM (p.objs.map (·.1)) (objKeys p.objs)&&p.env.all fun x=>noUnd x.2)))))))
def St.join (s:St) (M:List Nat) (dst:Option Nat) (e:Eff):St:=
 let env:=killIn (AVal.dead e.ka e.ki e.kr) s.env
 { env:=(match dst,e.v with|some d,some v=>ins env d v|_,_=>env),objs:=killObjs (AVal.dead e.ka e.ki e.kr) e.objs++killObjs (AVal.dead e.ka e.ki e.kr) (delAll s.objs M) }
def isStore:Op→Bool|.store _ _ _=>true|.mapUpdate _ _ _ _=>true|.insert _ _ _ _=>true|_=>false
def veff (Φ:Ctx) (p:St) (o:Oper):Option Eff:=
 let d:=o.dst.getD 0
 match calm Φ p o d with
 | some e=>
   match e.o,o.dst with
   | some ob,some d=>bif mem d (keysMade Φ o) then some { cond:=e.cond,calm:=true,v:=some e.v,objs:=(d,ob)::del p.objs d } else none
   | some _,none=>none
   | none,_=>some { cond:=e.cond,calm:=true,v:=some e.v,objs:=p.objs }
 | none=>
   match loud Φ p o d with
   | some (b,s1)=>bif !((o.dst.isSome&&mem d (keysMade Φ o))||isStore o.op) then none else some { cond:=b,calm:=false,v:=(match o.dst with|some d=>some (s1.tmp d)|none=>none),objs:=s1.objs,ka:=s1.ka,ki:=s1.ki,kr:=s1.kr }
   | none=>none
def callEff (Φ:Ctx) (o:Oper) (x:Sent) (rs:List AVal) (os:List VObj):Option Eff:=
 match vrecv Φ o.dst x rs os with
 | some (b,s1)=>some { cond:=b&&subM (keysMade Φ o) s1.ka,calm:=x.ks.isEmpty&&(x.lent.isEmpty&&(x.rf.isEmpty || !(x.fn.ro Φ && !x.fn.keep))),v:=(match o.dst with|some d=>some (s1.tmp d)|none=>none),objs:=s1.objs,ka:=s1.ka,ki:=s1.ki,kr:=s1.kr }
 | none=>none
def veffK {R:Type} (Φ:Ctx) (C:Oracle) (p:St) (o:Oper) (k:Eff→Option R):Option R:=
 match veff Φ p o with
 | some e=>k e
 | none=>
   match o.op with
   | .call c=>
     (match vsend Φ p c with
      | none=>none
      | some x=>
        bif x.cond then
         (C x.f x.args x.objs).bind fun (rs,os)=>
           match callEff Φ o x rs os with
           | some e=>k e
           | none=>none
        else none)
   | _=>none
def skel1:AVal→AVal|.own sz _=>.own sz []|.agg _=>.agg []|.tup _=>.tup []|v=>v
def rdv (l:List (Nat×VObj)) (K:Nat) (off:Option Nat):Option VObj:=
 match lk l K with
 | some o=>(match off,o.c with
   | some c,.agg cs=>(match cs[c]? with|some u=>some { box:=o.box,c:=skel1 u }|none=>none)
   | some _,_=>none
   | none,.agg _=>none
   | none,u=>some { box:=o.box,c:=skel1 u })
 | none=>none
def look (Φ:Ctx) (s:St):Op→Option (List AVal×List (Nat×Option Nat))
 | .move (.tmp t)=>some ([s.tmp t],[])
 | .assign (.tmp t)=>some ([s.tmp t],[])
 | .nilCheck (.tmp t)=>some ([s.tmp t],[])
 | .fieldAddr _ (.tmp t) _=>some ([s.tmp t],[])
 | .load u (.tmp t)=>(match Φ.ti u,s.tmp t with
   | some T,.ptr K [] off=>bif T.agg then none else (match rdv s.objs K off with|some o=>some ([.ptr K [] off,o.c],[(K,off)])|none=>none)
   | _,_=>none)
 | _=>none
def lookQ (Φ:Ctx) (s:St) (o:Op):Option (List AVal×List (Nat×Option Nat)):=
 match look Φ s o with
 | some q=>bif noUnds q.1 then some q else none
 | none=>none
def digs1:AVal→List (Nat×Option Nat)
 | .ref J []=>[(J,none)]
 | .ref J [i]=>[(J,some i)]
 | _=>[]
def digsL:List AVal→List (Nat×Option Nat)
 | []=>[]
 | x::r=>digs1 x++digsL r
def digsV:AVal→Option (List (Nat×Option Nat))
 | .agg cs=>bif noAgg cs then some (digsL cs) else none
 | v=>some (digs1 v)
def wideQ (s:St):AVal→Bool
 | .ref J []=>(match s.obj J with|some o=>aggQ o.c|none=>true)
 | _=>false
def tgtOf (K:Nat):List Nat→Option Nat→Nat→List (Nat×Option Nat)
 | [],some c,n=>(List.range n).map fun j=>(K,some (c+j))
 | [],none,_=>[(K,none)]
 | [i],_,_=>[(K,some i)]
 | _::_::_,_,_=>[]
def wrOf (Φ:Ctx) (s:St) (d:Nat):Op→Option (List (Nat×Option Nat))
 | .store t a x=>(match s.ev Φ 0 a,s.ev Φ t x with
   | some (.ptr K p off),some v=>bif wideQ s v then none else (match digsV v with
     | some l=>some (tgtOf K p off v.cells.length++l)
     | none=>none)
   | _,_=>none)
 | .call { callee:=.builtin .append,args,argTypes }=>(match evs Φ s argTypes.toList args.toList with
   | some [x,y]=>some ((d,none)::(digs1 x++digs1 y))
   | _=>none)
 | _=>none
def ptrOf (Φ:Ctx) (s:St):Op→Option (Nat×List Nat)
 | .store _ a _=>(match s.ev Φ 0 a with|some (.ptr K p _)=>some (K,p)|_=>none)
 | _=>none
def moreOf (Φ:Ctx) (s:St) (o:Oper) (e:Eff):DX:={ wr:=wrOf Φ s (o.dst.getD 0) o.op,ka:=e.ka,ki:=e.ki,kr:=e.kr,ptr:=ptrOf Φ s o.op }
def runOp {R:Type} (Φ:Ctx) (C:Oracle) (o:Oper) (i:Nat) (s:St) (k:St→Done→Option R):Option R:=
 match o.op with
 | .extract (.tmp t) j=>
   (match s.tmp t,o.dst with
    | .tup vs,some d=>bif Nat.blt j vs.length&&noUnd (vs.getD j .und) then k (s.set d (vs.getD j .und)) { i,calm:=true,made:=[],ment:=(vs.getD j .und).keys,hit:=false } else none
    | _,_=>none)
 | _=>
   match lookQ Φ s o.op,o.dst with
   | some q,some d=>(match calm Φ s o d with
     | some e=>bif e.cond&&e.o.isNone then k (s.set d e.v) { i,calm:=true,made:=[],ment:=[],hit:=false,more:={ vals:=e.v::q.1,rd:=q.2 } } else none
     | none=>none)
   | _,_=>
   let p:=s.part o.op
   let made:=keysMade Φ o
   let M:=made++p.objs.map (·.1)
   veffK Φ C p o fun e=>
    bif e.cond&&(okEff p M e&&((o.dst.isNone||e.v.isSome)&&made.all fun K=>Nat.blt K passBase&&(s.obj K).isNone)) then
     k (s.join M o.dst e) { i,calm:=e.calm&&(subM made e.ka&&(subM made (kk e.ki)&&subM made e.kr)),made,ment:=M,hit:=hitIn (AVal.dead e.ka e.ki e.kr) M e.calm s.objs s.objs,more:=moreOf Φ p o e }
    else none
def skipOp {R:Type} (o:Oper) (i:Nat) (s:St) (k:St→Done→Option R):Option R:=
 k (match o.dst with|some d=>s.set d (.tup [])|none=>s) { i,calm:=true,made:=[],ment:=[],hit:=false }
def vop {R:Type} (Φ:Ctx) (C:Oracle) (ops:Array Oper) (o:Oper) (i:Nat) (s:St) (k:St→Done→Option R):Option R:=
 match o.guard with
 | none=>runOp Φ C o i s k
 | some (j,want)=>
   match dstOf ops j with
   | none=>none
   | some g=>
     match s.tmp g with
     | .bool b=>bif b then (bif want then runOp Φ C o i (s.set g (.bool true)) k else skipOp o i (s.set g (.bool true)) k)
                else (bif want then skipOp o i (s.set g (.bool false)) k else runOp Φ C o i (s.set g (.bool false)) k)
     | .tup []=>skipOp o i s k
     | _=>none
def vops {R:Type} (Φ:Ctx) (C:Oracle) (ops:Array Oper):List Oper→Nat→St→List Done→(St→List Done→Option R)→Option R
 | [],_,s,ds,k=>k s ds
 | o::r,i,s,ds,k=>vop Φ C ops o i s fun s' d=>vops Φ C ops r (i+1) s' (d::ds) k
def vregion {R:Type} (Φ:Ctx) (C:Oracle) (ops:Array Oper) (draw:Bool) (s:St) (k:St→Option R):Option R:=
 vops Φ C ops ops.toList 0 (s.forget (makers Φ ops.toList)) [] fun s' ds=>
  bif draw then (bif edgesOk ops.toList 0&&orderOk ops (ancs ops.toList []) ds then k s' else none) else k s'
mutual
def renK (K t:Nat):AVal→AVal
 | .ptr J p off=>.ptr (bif Nat.beq J K then t else J) p off
 | .ref J p=>.ref (bif Nat.beq J K then t else J) p
 | .agg cs=>.agg (renKL K t cs)
 | .tup cs=>.tup (renKL K t cs)
 | .clo f cs=>.clo f (renKL K t cs)
 | v=>v
def renKL (K t:Nat):List AVal→List AVal
 | []=>[]
 | c::cs=>renK K t c::renKL K t cs
end
def renObjs (K t:Nat):List (Nat×VObj)→List (Nat×VObj)
 | []=>[]
 | (J,o)::r=>(J,{ o with c:=renK K t o.c })::renObjs K t r
def renEnv (K t:Nat):List (Nat×AVal)→List (Nat×AVal)
 | []=>[]
 | (u,v)::r=>(u,renK K t v)::renEnv K t r
def St.rekey (s:St) (K t:Nat):St:=
 let s1:=s.forget [t]
 match s1.obj K with
 | none=>s
 | some o=>{ s1 with env:=renEnv K t s1.env,objs:=renObjs K t (ins (del s1.objs K) t o) }
def ownAt (s:St) (K:Nat):Bool:=match s.obj K with|some { box:=false,c:=.own _ _ }=>true|_=>false
def tidy (own:List Nat):List Nat→St→St
 | [],s=>s
 | t::r,s=>
   match s.tmp t with
   | .ref K []=>bif Nat.beq K t||Nat.ble passBase t then tidy own r s
      else bif Nat.ble passBase K then
       (bif mem t own&&ownAt s K then tidy own r ((s.rekey K t).setObj K { box:=false,c:=.und }) else tidy own r s)
      else (match s.obj K with
       | some o=>bif o.box then tidy own r s else tidy own r (s.rekey K t)
       | none=>tidy own r s)
   | .nils sz=>bif mem t own&&Nat.blt t passBase then tidy own r (((s.forget [t]).setObj t { box:=false,c:=.own sz [] }).set t (.ref t [])) else tidy own r s
   | _=>tidy own r s
def norm (live own:List Nat) (np:Nat) (s0:St):St:=
 let s:=tidy own live { s0 with env:=sel live s0.env }
 let e:=sel live s.env
 let o:=sel (reach s.objs 3 (dedup (envKeys e++(List.range np).map (passBase + ·)) [])) s.objs
 let b:=fun v:AVal => !(subM (o.map (·.1)) v.keys)
 { env:=killIn b e,objs:=killObjs b o }
def resTmps (fn:FnI):List Nat:=fn.res.map fun|.tmp t=>t|.cell t _=>t
def normExit (fn:FnI) (np:Nat) (h:LoopHint) (o:Out) (s:St):St:=
 match o with
 | .ret=>norm (resTmps fn) [] np s
 | _=>norm h.liveX h.own np s
def iter (body:St→(Out→St→Option (Out×St))→Option (Out×St)) (fn:FnI) (np:Nat) (h:LoopHint):Nat→St→Option (Out×St)
 | 0,_=>none
 | n+1,s=>body (norm h.live h.own np s) fun o s'=>match o with
   | .normal=>iter body fn np h n s'
   | o=>some (o,normExit fn np h o s')
def loops:Code→Nat
 | .seq a b=>loops a+loops b
 | .cond _ a b=>loops a+loops b
 | .block _ a=>loops a
 | .loop a=>loops a+1
 | .scope a=>loops a
 | _=>0
def vexec (Φ:Ctx) (C:Oracle) (fn:FnI) (np n:Nat):Code→Nat→{R:Type}→St→(Out→St→Option R)→Option R
 | .skip,_,_,s,k=>k .normal s
 | .region _ ops draw,_,_,s,k=>vregion Φ C ops draw s (k .normal)
 | .seq a b,h,_,s,k=>vexec Φ C fn np n a h s fun o s'=>match o with
   | .normal=>vexec Φ C fn np n b (h+loops a) s' k
   | o=>k o s'
 | .cond c a b,h,_,s,k=>match s.ev Φ 0 c with
   | some (.bool x)=>bif x then vexec Φ C fn np n a h s k else vexec Φ C fn np n b (h+loops a) s k
   | _=>none
 | .block id a,h,_,s,k=>vexec Φ C fn np n a h s fun o s'=>match o with
   | .exit j=>bif Nat.beq j id then k .normal s' else k (.exit j) s'
   | o=>k o s'
 | .loop a,h,_,s,k=>
   (iter (fun s k=>vexec Φ C fn np n a (h+1) s k) fn np (fn.loops.getD h default) n s).bind fun (o,s')=>k o s'
 | .exit id,_,_,s,k=>k (.exit id) s
 | .scope a,h,_,s,k=>vexec Φ C fn np n a h s k
 | .label _,_,_,s,k=>k .normal s
 | .ret,_,_,s,k=>k .ret s
 | _,_,_,_,_=>none
def numFrom {α:Type}:Nat→List α→List (Nat×α)
 | _,[]=>[]
 | i,x::xs=>(i,x)::numFrom (i+1) xs
def shift1:AVal→AVal
 | .ptr K p off=>.ptr (passBase+K) p off
 | .ref K p=>.ref (passBase+K) p
 | v=>v
def shift:AVal→AVal
 | .clo f cs=>.clo f (cs.map shift1)
 | .agg cs=>.agg (cs.map shift1)
 | v=>shift1 v
def bxAt (s:St):AVal→Option (AVal×Nat)
 | .ptr K p off=>(match p,off with
   | [],none=>bif Nat.blt K passBase then (match s.obj K with|some o=>bif o.box then some (o.c,K) else none|none=>none) else none
   | _,_=>none)
 | _=>none
def vresults (Φ:Ctx) (s:St):List ResultVar→Option (List AVal×St)
 | []=>some ([],s)
 | .tmp t::r=>(match bxAt s (s.tmp t) with
   | some (c,K)=>(match vresults Φ (s.drop K) r with|some (vs,s2)=>some (.tup [c]::vs,s2)|none=>none)
   | none=>(match s.give (s.tmp t) with
   | some (v,s1)=>(match vresults Φ s1 r with|some (vs,s2)=>some (v::vs,s2)|none=>none)
   | none=>none))
 | .cell a t::r=>(match s.tmp a,Φ.ti t with
   | .ptr K [] none,some T=>(match s.obj K with
     | some o=>bif o.box&&(Nat.beq o.c.cells.length T.cts.length&&decide (aggQ o.c=T.agg)) then
        (match vresults Φ (s.drop K) r with|some (vs,s2)=>some (o.c::vs,s2)|none=>none) else none
     | none=>none)
   | _,_=>none)
def vret (Φ:Ctx) (fn:FnI) (n:Nat) (s:St):Option (List AVal×List VObj):=
 match vresults Φ s fn.res with
 | none=>none
 | some (vs,s1)=>
   match objsOf s1 ((List.range n).map (passBase + ·)) ((List.range n).map (passBase + ·)) with
   | some os=>bif pureRs vs then some (bif fn.frz then asRoL vs else vs,os) else none
   | none=>none
def itoaB (n:Int):ByteArray:=⟨(Lib.itoa n).toArray⟩
def repL (l:List UInt8):Nat→List UInt8
 | 0=>[]
 | n+1=>l++repL l n
def repB (z:ByteArray) (n:Nat):ByteArray:=⟨(repL z.data.toList n).toArray⟩
def natF (Φ:Ctx) (n:Nat) (args:List AVal) (objs:List VObj):Option (List AVal×List VObj):=
 match Φ.bld,n,args,objs with
 | some (T,e),1,[.ref 0 [],.str z],[{ box:=false,c:=.mp .oth xs }]=>bif bldQ T e xs&&Nat.ble ((bldS xs).size+z.size) 140737488355328 then
    some ([.int .i64 (z.size:Int),.und],[{ box:=false,c:=.mp .oth (bldMk T e (bldS xs++z)) }]) else none
 | some (T,e),2,[.ref 0 [],.int .u8 c],[{ box:=false,c:=.mp .oth xs }]=>bif bldQ T e xs&&(Nat.ble ((bldS xs).size+1) 140737488355328&&(decide (0≤c)&&decide (c<256))) then
    some ([.und],[{ box:=false,c:=.mp .oth (bldMk T e ((bldS xs).push c.toNat.toUInt8)) }]) else none
 | _,4,[.int .i64 n],[]=>bif decide (-9223372036854775808≤n)&&decide (n≤9223372036854775807) then some ([.str (itoaB n)],[]) else none
 | some (T,e),3,[.ref 0 []],[{ box:=false,c:=.mp .oth xs }]=>bif bldQ T e xs then some ([.str (bldS xs)],[{ box:=false,c:=.und }]) else none
 | _,5,[.str z,.int .i64 n],[]=>bif decide (0≤n)&&(decide (n≤9223372036854775807)&&Nat.ble (z.size*n.toNat) 140737488355328) then some ([.str (repB z n.toNat)],[]) else none
 | _,_,_,_=>none
def vcall (Φ:Ctx):Nat→Oracle
 | 0=>fun _ _ _=>none
 | k+1=>fun f args objs=>
   match lk Φ.fns f with
   | none=>none
   | some fn=>
     match lk Φ.nats f with
     | some n=>natF Φ n args objs
     | none=>
     bif !(Nat.ble args.length fn.nt) then none else vexec Φ (vcall Φ k) fn objs.length k fn.body 0 { env:=numFrom 0 (args.map shift),objs:=numFrom passBase objs }
      fun o s=>match o with
       | .exit _=>none
       | _=>vret Φ fn objs.length s
end Go.VK
namespace Go.VK
open AVal
def RBlk (w:World) (b:Nat) (cs:Array Value):Prop := ∃e fr,w.heap[b]? = some (.cells cs e fr)
def Unfr (fr:Nat×Nat) (n:Nat):Prop := ∀o,o<n → ¬(fr.1≤o∧o<fr.2)
def Blk (w:World) (b:Nat) (cs:Array Value):Prop := ∃e fr,w.heap[b]? = some (.cells cs e fr)∧Unfr fr cs.size
mutual
def ROC (w:World) (fz:Nat→Prop):AVal→List Value→Prop
 | .bool b,c=>c=[.bool b]
 | .int k n,c=>c=[.int k n]
 | .str s,c=>c=[.string s]
 | .nilp,c=>c=[.pointer none]
 | .unk,c => ∃v,c=[v]∧v.oneCell'=true
 | .nils _,c=>c=[.slice none 0 0]
 | .ro t sz xs,c => ∃a cap,c=[.slice a xs.length cap]∧xs.length≤cap∧(t=true→cap=xs.length) ∧
    (xs≠[]→0<sz ∧ ∃b off cs,a=some ⟨b,off,none⟩∧fz b∧RBlk w b cs∧ROX w fz xs sz (cs.toList.drop off))
 | .agg cs,c=>ROL w fz cs c
 | .und,c => ∃v,c=[v]∧v.oneCell'=true
 | _,_=>False
def ROL (w:World) (fz:Nat→Prop):List AVal→List Value→Prop
 | [],c=>c=[]
 | x::xs,c => ∃v r,c=v::r∧ROC w fz x [v]∧ROL w fz xs r
def ROX (w:World) (fz:Nat→Prop):List AVal→Nat→List Value→Prop
 | [],_,_=>True
 | x::xs,sz,c => ∃c1 c2,c=c1++c2∧c1.length=sz∧ROC w fz x c1∧ROX w fz xs sz c2
end
def pval1:AVal→Value
 | .bool b=>.bool b
 | .int k n=>.int k n
 | .str s=>.string s
 | _=>.nilFunc
def pval:AVal→Value
 | .bool b=>.bool b
 | .int k n=>.int k n
 | .str s=>.string s
 | .agg cs=>.agg (cs.map pval1).toArray
 | _=>.nilFunc
def mapCT:CT→Bool|.int _=>true|.str=>true|.slice _=>true|_=>false
structure MpOK (kc:CT) (xs:List AVal) (es:Array MapEntry):Prop where
 perm:(es.toList.map fun e=>(e.key,e.val)).Perm (xs.map fun x=>(pval (mpK x),pval (mpV x)))
 ent : ∀x∈xs,keyQ kc (mpK x)=true∧scalV (mpV x)=true
 ord:xs.Pairwise fun x y=>kcode (mpK x)<kcode (mpK y)
abbrev Foot:=Nat→Nat
def BldC (w:World) (xs:List AVal) (c:List Value) (f:Foot):Prop:=
 ∃(s:ByteArray) (T e:Int) (b:Nat) (p v:Value),xs=[.str s,.int .i64 T,.int .i64 e]∧c=[.pointer (some ⟨b,0,none⟩)]∧(p=.pointer none∨p=.pointer (some ⟨b,0,none⟩)) ∧
  w.heap[b]? = some (.cells #[p,v] T.toNat (0,0))∧w.ownsRow 0 e.toNat 1 v s.size (Lib.strCells s)∧v.ownBlock≠some b ∧ ∀i,f i=(if i=b then 1 else 0)+if v.ownBlock=some i then 1 else 0
def MpC (w:World) (kc:CT) (xs:List AVal) (c:List Value) (f:Foot):Prop:=
 match kc with
 | .oth=>BldC w xs c f
 | kc => ∃r es n,c=[.map (some r)]∧w.heap[r]? = some (.map es n)∧MpOK kc xs es ∧ ∀b,f b=if b=r then 1 else 0
theorem MpC.map {w:World} {kc:CT} {xs:List AVal} {c:List Value} {f:Foot} (hk:mapCT kc=true):MpC w kc xs c f ↔ ∃r es n,c=[.map (some r)]∧w.heap[r]? = some (.map es n)∧MpOK kc xs es ∧ ∀b,f b=if b=r then 1 else 0:=by
 cases kc <;> simp [mapCT] at hk <;> exact Iff.rfl
theorem MpC.one {w:World} {kc:CT} {xs:List AVal} {c:List Value} {f:Foot} (h:MpC w kc xs c f) : ∃v,c=[v]∧v.oneCell'=true:=by
 cases kc with
 | oth=>obtain ⟨s,T,e,b,p,v,_,rfl,_⟩:=h;exact ⟨_,rfl,rfl⟩
 | _=>obtain ⟨r,es,n,rfl,_⟩:=h;exact ⟨_,rfl,rfl⟩
theorem MpC.same {w w':World} {kc:CT} {xs:List AVal} {c:List Value} {f:Foot} (hs : ∀b,0<f b→w'.heap[b]? = w.heap[b]?) (h:MpC w kc xs c f):MpC w' kc xs c f:=by
 have key:(∃r es n,c=[.map (some r)]∧w.heap[r]? = some (.map es n)∧MpOK kc xs es ∧ ∀b,f b=if b=r then 1 else 0) → ∃r es n,c=[.map (some r)]∧w'.heap[r]? = some (.map es n)∧MpOK kc xs es ∧ ∀b,f b=if b=r then 1 else 0:=by
  rintro ⟨r,es,n,hc,hh,hm,hff⟩
  exact ⟨r,es,n,hc,(hs r (by rw [hff];simp)).trans hh,hm,hff⟩
 cases kc with
 | oth=>
   obtain ⟨s,T,e,b,p,v,h1,h2,h3,h4,h5,h6,h7⟩:=h
   refine ⟨s,T,e,b,p,v,h1,h2,h3,(hs b (by rw [h7,if_pos rfl];omega)).trans h4,⟨h5.1,?_⟩,h6,h7⟩
   rcases h5.2 with hn|⟨g,cap,cur,rfl,hb,hgg,rest⟩
   · exact .inl hn
   · exact .inr ⟨g,cap,cur,rfl,hb,(hs g (by rw [h7];simp only [Value.ownBlock,if_true];omega)).trans hgg,rest⟩
 | _=>exact key h
theorem MpC.lt {w:World} {kc:CT} {xs:List AVal} {c:List Value} {f:Foot} (h:MpC w kc xs c f) : ∀b,0<f b→b<w.heap.size:=by
 have key:(∃r es n,c=[.map (some r)]∧w.heap[r]? = some (.map es n)∧MpOK kc xs es ∧ ∀b,f b=if b=r then 1 else 0) → ∀b,0<f b→b<w.heap.size:=by
  rintro ⟨r,es,n,_,hh,_,hf⟩ b hb
  rw [hf] at hb
  split at hb
  · rename_i e;subst e;exact (Array.getElem?_eq_some_iff.1 hh).1
  · omega
 cases kc with
 | oth=>
   obtain ⟨s,T,e,b,p,v,h1,h2,h3,h4,h5,h6,h7⟩:=h
   intro i hi
   by_cases hib:i=b
   · subst hib;exact (Array.getElem?_eq_some_iff.1 h4).1
   · rw [h7,if_neg hib] at hi
     split at hi
     · rename_i hv;exact (h5.lt i hv).2
     · omega
 | _=>exact key h
def zf:Foot:=fun _=>0
abbrev Env2:=AVal→Value→Prop
def NoE:Env2:=fun _ _=>False
mutual
def OwC (w:World) (fz:Nat→Prop) (E:Env2):AVal→List Value→Foot→Prop
 | .und,c,f=>(∃v,c=[v]∧v.oneCell'=true) ∧ ∀b,f b=0
 | .agg cs,c,f=>OwL w fz E cs c f
 | .own sz xs,c,f => ∃a cap,c=[.slice a xs.length cap]∧xs.length≤cap ∧
    ((cap=0 ∧ ∀b,f b=0) ∨
     0<sz ∧ ∃g off cs f',a=some ⟨g,off,none⟩∧Blk w g cs∧off+cap*sz≤cs.size∧OwX w fz NoE xs sz (cs.toList.drop off) f' ∧ ∀b,f b=f' b+if b=g then 1 else 0)
 | .ptr K p off,c,f=>(∃v,c=[v]∧v.oneCell'=true∧E (.ptr K p off) v) ∧ ∀b,f b=0
 | .ref K p,c,f=>(∃v,c=[v]∧v.oneCell'=true∧E (.ref K p) v) ∧ ∀b,f b=0
 | .clo g cs,c,f=>(∃v,c=[v]∧v.oneCell'=true∧E (.clo g cs) v) ∧ ∀b,f b=0
 | .rop _ _,_,_=>False
 | .tup _,_,_=>False
 | .mp kc xs,c,f=>MpC w kc xs c f
 | .bool b,c,f=>c=[.bool b] ∧ ∀b,f b=0
 | .int k n,c,f=>c=[.int k n] ∧ ∀b,f b=0
 | .str s,c,f=>c=[.string s] ∧ ∀b,f b=0
 | .nilp,c,f=>c=[.pointer none] ∧ ∀b,f b=0
 | .unk,c,f=>(∃v,c=[v]∧v.oneCell'=true) ∧ ∀b,f b=0
 | .nils _,c,f=>c=[.slice none 0 0] ∧ ∀b,f b=0
 | .ro t sz xs,c,f=>ROC w fz (.ro t sz xs) c ∧ ∀b,f b=0
def OwL (w:World) (fz:Nat→Prop) (E:Env2):List AVal→List Value→Foot→Prop
 | [],c,f=>c=[] ∧ ∀b,f b=0
 | x::xs,c,f => ∃v r f1 f2,c=v::r∧OwC w fz E x [v] f1∧OwL w fz E xs r f2 ∧ ∀b,f b=f1 b+f2 b
def OwX (w:World) (fz:Nat→Prop) (E:Env2):List AVal→Nat→List Value→Foot→Prop
 | [],_,_,f => ∀b,f b=0
 | x::xs,sz,c,f => ∃c1 c2 f1 f2,c=c1++c2∧c1.length=sz∧OwC w fz E x c1 f1∧OwX w fz E xs sz c2 f2 ∧ ∀b,f b=f1 b+f2 b
end
inductive Loc where
 | mem (b o:Nat)
 | val (v:Value)
def hdOf (w:World):Loc→Option Value
 | .mem b o=>w.cell? ⟨b,o,none⟩
 | .val v=>some v
def walk (w:World):AVal→Loc→List Nat→Option Loc
 | _,l,[]=>some l
 | .agg cs,.mem b o,c::p=>if c<cs.length then walk w (cs.getD c .und) (.mem b (o+c)) p else none
 | .own sz xs,l,i::p=>if i<xs.length then (match hdOf w l with
    | some (.slice (some a) _ _)=>walk w (xs.getD i .und) (.mem a.block (a.off+i*sz)) p
    | _=>none) else none
 | .ro _ sz xs,l,i::p=>if i<xs.length then (match hdOf w l with
    | some (.slice (some a) _ _)=>walk w (xs.getD i .und) (.mem a.block (a.off+i*sz)) p
    | _=>none) else none
 | _,_,_::_=>none
abbrev OM:=Nat→Option VObj
abbrev RM:=Nat→Loc
def EvP (w:World) (O:OM) (R:RM):AVal→Value→Prop
 | .ptr K p off,v => ∃o b q,O K=some o∧walk w o.c (R K) p=some (.mem b q)∧v=.pointer (some ⟨b,q+off.getD 0,none⟩)
 | .ref K p,v => ∃o l,O K=some o∧walk w o.c (R K) p=some l∧hdOf w l=some v∧v.oneCell'=true
 | .nilp,v=>v=.pointer none
 | _,_=>False
def EvPs (w:World) (O:OM) (R:RM):List AVal→List Value→Prop
 | [],vs=>vs=[]
 | c::cs,vs => ∃v r,vs=v::r∧EvP w O R c v∧EvPs w O R cs r
def cloV (f:Nat) (vs:Array Value):Value:=bif Nat.ble bndBase f then .func (.func (f-bndBase)) vs #[] else .func (.func f) #[] vs
theorem cloV_one (f:Nat) (vs:Array Value):(cloV f vs).oneCell'=true:=by
 unfold cloV
 cases Nat.ble bndBase f <;> rfl
theorem cloV_cells (f:Nat) (vs:Array Value):(cloV f vs).cells = #[cloV f vs]:=by
 unfold cloV
 cases Nat.ble bndBase f <;> rfl
def EvR (w:World) (O:OM) (R:RM):AVal→Value→Prop
 | .clo f cs,v => ∃vs:Array Value,v=cloV f vs∧EvPs w O R cs vs.toList
 | x,v=>EvP w O R x v
def width:AVal→Nat|.agg cs=>cs.length|_=>1
mutual
def EvV (w:World) (fz:Nat→Prop) (O:OM) (R:RM):AVal→Value→Prop
 | .und,v=>v.oneCell'=true
 | .ptr K p off,v=>EvR w O R (.ptr K p off) v
 | .ref K p,v=>EvR w O R (.ref K p) v
 | .clo f cs,v=>EvR w O R (.clo f cs) v
 | .rop x off,v => ∃b o cs,v=.pointer (some ⟨b,o+off.getD 0,none⟩)∧fz b∧RBlk w b cs∧ROC w fz x ((cs.toList.drop o).take (width x))
 | .agg cs,v => ∃vs:Array Value,v=.agg vs∧EvL w fz O R cs vs.toList
 | .tup cs,v => ∃vs:Array Value,v=.tuple vs∧EvL w fz O R cs vs.toList
 | .own _ _,_=>False
 | .mp _ _,_=>False
 | .bool b,v=>v=.bool b
 | .int k n,v=>v=.int k n
 | .str s,v=>v=.string s
 | .nilp,v=>v=.pointer none
 | .unk,v=>v.oneCell'=true
 | .nils _,v=>v=.slice none 0 0
 | .ro t sz xs,v=>ROC w fz (.ro t sz xs) [v]
def EvL (w:World) (fz:Nat→Prop) (O:OM) (R:RM):List AVal→List Value→Prop
 | [],vs=>vs=[]
 | x::xs,vs => ∃v r,vs=v::r∧EvV w fz O R x v∧EvL w fz O R xs r
end
def OwO (w:World) (fz:Nat→Prop) (E:Env2) (o:VObj) (l:Loc) (f:Foot):Prop:=
 if o.box then ∃b cs f',l=.mem b 0∧Blk w b cs∧OwC w fz E o.c cs.toList f' ∧ ∀i,f i=f' i+if i=b then 1 else 0
 else ∃v,l=.val v∧OwC w fz E o.c [v] f∧aggQ o.c=false
structure Rel (w:World) (fz al:Nat→Prop) (env:List (Nat×AVal)) (tm:Array Value) (O:OM) (R:RM) (F:Nat→Foot):Prop where
 env : ∀t v,lk env t=some v→t<tm.size∧EvV w fz O R v (tm.getD t undef)
 obj : ∀K o,O K=some o→OwO w fz (EvR w O R) o (R K) (F K)
 one : ∀K o,O K=some o → ∀b,F K b≤1
 dis : ∀K o J u,K≠J→O K=some o→O J=some u → ∀b,F K b=0∨F J b=0
 own : ∀K o,O K=some o → ∀b,0<F K b→al b ∧ ¬fz b
 lt : ∀b,fz b→b<w.heap.size
structure Keep (w:World) (al:Nat→Prop) (w':World):Prop where
 os:w'.os=w.os
 tape:w'.tape=w.tape
 output:w'.output=w.output
 size:w.heap.size≤w'.heap.size
 block : ∀b,b<w.heap.size → ¬al b→w'.heap[b]? = w.heap[b]?
end Go.VK
namespace Go.VK
open AVal
theorem RBlk.same {w w':World} {b:Nat} {cs:Array Value} (h:RBlk w b cs) (hs:w'.heap[b]? = w.heap[b]?):RBlk w' b cs:=by
 obtain ⟨e,fr,h⟩:=h;exact ⟨e,fr,hs.trans h⟩
theorem Blk.same {w w':World} {b:Nat} {cs:Array Value} (h:Blk w b cs) (hs:w'.heap[b]? = w.heap[b]?):Blk w' b cs:=by
 obtain ⟨e,fr,h,u⟩:=h;exact ⟨e,fr,hs.trans h,u⟩
theorem Blk.r {w:World} {b:Nat} {cs:Array Value} (h:Blk w b cs):RBlk w b cs:=by
 obtain ⟨e,fr,h,u⟩:=h;exact ⟨e,fr,h⟩
theorem RBlk.lt {w:World} {b:Nat} {cs:Array Value} (h:RBlk w b cs):b<w.heap.size:=by
 obtain ⟨e,fr,h⟩:=h;exact (Array.getElem?_eq_some_iff.1 h).1
theorem RBlk.cell {w:World} {b:Nat} {cs:Array Value} (h:RBlk w b cs) (o:Nat):w.cell? ⟨b,o,none⟩=cs[o]? := by
 obtain ⟨e,fr,h⟩:=h;simp [World.cell?,h]
theorem RBlk.uniq {w:World} {b:Nat} {cs ds:Array Value} (h:RBlk w b cs) (k:RBlk w b ds):cs=ds:=by
 obtain ⟨e,fr,h⟩:=h;obtain ⟨e',fr',k⟩:=k;rw [h] at k;simp at k;exact k.1
theorem Blk.unfrozen {w:World} {b:Nat} {cs:Array Value} (h:Blk w b cs) {o:Nat} (ho:o<cs.size):w.frozen? ⟨b,o,none⟩=false:=by
 obtain ⟨e,⟨lo,hi⟩,h,u⟩:=h;have:=u o ho;simp [World.frozen?,h];omega
mutual
theorem ROC.mono {w w':World} {fz fz':Nat→Prop} (hw : ∀b,fz b→w'.heap[b]? = w.heap[b]?) (hf : ∀b,fz b→fz' b) : ∀(x:AVal) (c:List Value),ROC w fz x c→ROC w' fz' x c
 | .bool _,_,h=>h
 | .int _ _,_,h=>h
 | .str _,_,h=>h
 | .nilp,_,h=>h
 | .unk,_,h=>h
 | .nils _,_,h=>h
 | .und,_,h=>h
 | .ro t sz xs,c,h=>by
   simp only [ROC] at h ⊢
   obtain ⟨a,cap,hc,hl,ht,hx⟩:=h
   refine ⟨a,cap,hc,hl,ht,fun hne => ?_⟩
   obtain ⟨hz,b,off,cs,ha,hb,hB,hX⟩:=hx hne
   exact ⟨hz,b,off,cs,ha,hf _ hb,hB.same (hw _ hb),ROX.mono hw hf xs sz _ hX⟩
 | .agg cs,c,h=>by simp only [ROC] at h ⊢;exact ROL.mono hw hf cs c h
 | .ptr _ _ _,_,h=>by simp [ROC] at h
 | .rop _ _,_,h=>by simp [ROC] at h
 | .ref _ _,_,h=>by simp [ROC] at h
 | .own _ _,_,h=>by simp [ROC] at h
 | .tup _,_,h=>by simp [ROC] at h
 | .clo _ _,_,h=>by simp [ROC] at h
theorem ROL.mono {w w':World} {fz fz':Nat→Prop} (hw : ∀b,fz b→w'.heap[b]? = w.heap[b]?) (hf : ∀b,fz b→fz' b) : ∀(xs:List AVal) (c:List Value),ROL w fz xs c→ROL w' fz' xs c
 | [],_,h=>h
 | x::xs,c,h=>by
   simp only [ROL] at h ⊢
   obtain ⟨v,r,hc,h1,h2⟩:=h
   exact ⟨v,r,hc,ROC.mono hw hf x _ h1,ROL.mono hw hf xs _ h2⟩
theorem ROX.mono {w w':World} {fz fz':Nat→Prop} (hw : ∀b,fz b→w'.heap[b]? = w.heap[b]?) (hf : ∀b,fz b→fz' b) : ∀(xs:List AVal) (sz:Nat) (c:List Value),ROX w fz xs sz c→ROX w' fz' xs sz c
 | [],_,_,h=>h
 | x::xs,sz,c,h=>by
   simp only [ROX] at h ⊢
   obtain ⟨c1,c2,hc,hl,h1,h2⟩:=h
   exact ⟨c1,c2,hc,hl,ROC.mono hw hf x _ h1,ROX.mono hw hf xs sz _ h2⟩
end
def keepE (b:AVal→Bool) (E E':Env2):Prop := ∀x v,b x=false→E x v→E' x v
mutual
theorem OwC.mono {w w':World} {fz fz':Nat→Prop} (hf : ∀b,fz b→fz' b∧w'.heap[b]? = w.heap[b]?) : ∀(x:AVal) (E E':Env2) (_hE:keepE (fun _=>false) E E') (c:List Value) (f:Foot),(∀b,0<f b→w'.heap[b]? = w.heap[b]?)→OwC w fz E x c f→OwC w' fz' E' x c f
 | .und,_,_,_,_,_,_,h=>by simpa [OwC] using h
 | .bool _,_,_,_,_,_,_,h=>by simpa [OwC] using h
 | .int _ _,_,_,_,_,_,_,h=>by simpa [OwC] using h
 | .str _,_,_,_,_,_,_,h=>by simpa [OwC] using h
 | .nilp,_,_,_,_,_,_,h=>by simpa [OwC] using h
 | .unk,_,_,_,_,_,_,h=>by simpa [OwC] using h
 | .nils _,_,_,_,_,_,_,h=>by simpa [OwC] using h
 | .mp kc xs,_,_,_,c,f,hs,h=>by
   simp only [OwC] at h ⊢
   exact h.same hs
 | .rop _ _,_,_,_,_,_,_,h=>by simp [OwC] at h
 | .tup _,_,_,_,_,_,_,h=>by simp [OwC] at h
 | .ptr _ _ _,_,_,hE,_,_,_,h=>by simp only [OwC] at h ⊢;obtain ⟨⟨v,hc,h1,hv⟩,h0⟩:=h;exact ⟨⟨v,hc,h1,hE _ _ rfl hv⟩,h0⟩
 | .ref _ _,_,_,hE,_,_,_,h=>by simp only [OwC] at h ⊢;obtain ⟨⟨v,hc,h1,hv⟩,h0⟩:=h;exact ⟨⟨v,hc,h1,hE _ _ rfl hv⟩,h0⟩
 | .clo _ _,_,_,hE,_,_,_,h=>by simp only [OwC] at h ⊢;obtain ⟨⟨v,hc,h1,hv⟩,h0⟩:=h;exact ⟨⟨v,hc,h1,hE _ _ rfl hv⟩,h0⟩
 | .ro t sz xs,_,_,_,c,f,_,h=>by
   simp only [OwC] at h ⊢
   exact ⟨ROC.mono (fun b hb=>(hf b hb).2) (fun b hb=>(hf b hb).1) _ _ h.1,h.2⟩
 | .agg cs,E,E',hE,c,f,hs,h=>by simp only [OwC] at h ⊢;exact OwL.mono hf cs E E' hE c f hs h
 | .own sz xs,E,E',hE,c,f,hs,h=>by
   simp only [OwC] at h ⊢
   obtain ⟨a,cap,hc,hl,h⟩:=h
   refine ⟨a,cap,hc,hl,?_⟩
   rcases h with h|⟨hz,g,off,cs,f',ha,hB,hle,hX,hff⟩
   · exact .inl h
   · refine .inr ⟨hz,g,off,cs,f',ha,hB.same (hs g (by rw [hff];simp)),hle,?_,hff⟩
     exact OwX.mono hf xs NoE NoE (fun _ _ _ h=>h) sz _ f' (fun b hb=>hs b (by rw [hff];omega)) hX
theorem OwL.mono {w w':World} {fz fz':Nat→Prop} (hf : ∀b,fz b→fz' b∧w'.heap[b]? = w.heap[b]?) : ∀(xs:List AVal) (E E':Env2) (_hE:keepE (fun _=>false) E E') (c:List Value) (f:Foot),(∀b,0<f b→w'.heap[b]? = w.heap[b]?)→OwL w fz E xs c f→OwL w' fz' E' xs c f
 | [],_,_,_,_,_,_,h=>by simpa [OwL] using h
 | x::xs,E,E',hE,c,f,hs,h=>by
   simp only [OwL] at h ⊢
   obtain ⟨v,r,f1,f2,hc,h1,h2,hff⟩:=h
   exact ⟨v,r,f1,f2,hc,OwC.mono hf x E E' hE _ f1 (fun b hb=>hs b (by rw [hff];omega)) h1,OwL.mono hf xs E E' hE _ f2 (fun b hb=>hs b (by rw [hff];omega)) h2,hff⟩
theorem OwX.mono {w w':World} {fz fz':Nat→Prop} (hf : ∀b,fz b→fz' b∧w'.heap[b]? = w.heap[b]?) : ∀(xs:List AVal) (E E':Env2) (_hE:keepE (fun _=>false) E E') (sz:Nat) (c:List Value) (f:Foot),(∀b,0<f b→w'.heap[b]? = w.heap[b]?)→OwX w fz E xs sz c f→OwX w' fz' E' xs sz c f
 | [],_,_,_,_,_,_,_,h=>by simpa [OwX] using h
 | x::xs,E,E',hE,sz,c,f,hs,h=>by
   simp only [OwX] at h ⊢
   obtain ⟨c1,c2,f1,f2,hc,hl,h1,h2,hff⟩:=h
   exact ⟨c1,c2,f1,f2,hc,hl,OwC.mono hf x E E' hE _ f1 (fun b hb=>hs b (by rw [hff];omega)) h1,OwX.mono hf xs E E' hE sz _ f2 (fun b hb=>hs b (by rw [hff];omega)) h2,hff⟩
end
mutual
theorem OwC.ones {w:World} {fz:Nat→Prop} {E:Env2} : ∀(x:AVal) (c:List Value) (f:Foot),OwC w fz E x c f → ∀u∈c,u.oneCell'=true
 | .und,c,f,h,u,hu=>by simp only [OwC] at h;obtain ⟨⟨v,rfl,h1⟩,_⟩:=h;simp only [List.mem_singleton] at hu;rw [hu];exact h1
 | .ptr _ _ _,c,f,h,u,hu=>by simp only [OwC] at h;obtain ⟨⟨v,rfl,h1,_⟩,_⟩:=h;simp only [List.mem_singleton] at hu;rw [hu];exact h1
 | .ref _ _,c,f,h,u,hu=>by simp only [OwC] at h;obtain ⟨⟨v,rfl,h1,_⟩,_⟩:=h;simp only [List.mem_singleton] at hu;rw [hu];exact h1
 | .clo _ _,c,f,h,u,hu=>by simp only [OwC] at h;obtain ⟨⟨v,rfl,h1,_⟩,_⟩:=h;simp only [List.mem_singleton] at hu;rw [hu];exact h1
 | .agg cs,c,f,h,u,hu=>by simp only [OwC] at h;exact OwL.ones cs c f h u hu
 | .own sz xs,c,f,h,u,hu=>by simp only [OwC] at h;obtain ⟨a,cap,rfl,_⟩:=h;simp only [List.mem_singleton] at hu;rw [hu];rfl
 | .mp _ _,c,f,h,u,hu=>by simp only [OwC] at h;obtain ⟨v,rfl,h1⟩:=h.one;simp only [List.mem_singleton] at hu;rw [hu];exact h1
 | .rop _ _,c,f,h,u,hu=>by simp [OwC] at h
 | .tup _,c,f,h,u,hu=>by simp [OwC] at h
 | .bool b,c,f,h,u,hu=>by simp only [OwC] at h;obtain ⟨rfl,_⟩:=h;simp only [List.mem_singleton] at hu;rw [hu];rfl
 | .int k n,c,f,h,u,hu=>by simp only [OwC] at h;obtain ⟨rfl,_⟩:=h;simp only [List.mem_singleton] at hu;rw [hu];rfl
 | .str s,c,f,h,u,hu=>by simp only [OwC] at h;obtain ⟨rfl,_⟩:=h;simp only [List.mem_singleton] at hu;rw [hu];rfl
 | .nilp,c,f,h,u,hu=>by simp only [OwC] at h;obtain ⟨rfl,_⟩:=h;simp only [List.mem_singleton] at hu;rw [hu];rfl
 | .unk,c,f,h,u,hu=>by simp only [OwC] at h;obtain ⟨⟨v,rfl,hv⟩,_⟩:=h;simp only [List.mem_singleton] at hu;rw [hu];exact hv
 | .nils _,c,f,h,u,hu=>by simp only [OwC] at h;obtain ⟨rfl,_⟩:=h;simp only [List.mem_singleton] at hu;rw [hu];rfl
 | .ro t sz xs,c,f,h,u,hu=>by simp only [OwC,ROC] at h;obtain ⟨⟨a,cap,rfl,_⟩,_⟩:=h;simp only [List.mem_singleton] at hu;rw [hu];rfl
theorem OwL.ones {w:World} {fz:Nat→Prop} {E:Env2} : ∀(xs:List AVal) (c:List Value) (f:Foot),OwL w fz E xs c f → ∀u∈c,u.oneCell'=true
 | [],c,f,h,u,hu=>by simp only [OwL] at h;rw [h.1] at hu;simp at hu
 | x::xs,c,f,h,u,hu=>by
   simp only [OwL] at h
   obtain ⟨v,r,f1,f2,rfl,h1,h2,_⟩:=h
   rcases List.mem_cons.1 hu with rfl|hu
   · exact OwC.ones x _ f1 h1 _ (by simp)
   · exact OwL.ones xs r f2 h2 u hu
end
mutual
theorem ROC.ones {w:World} {fz:Nat→Prop} : ∀(x:AVal) (c:List Value),ROC w fz x c → ∀u∈c,u.oneCell'=true
 | .und,c,h,u,hu=>by simp only [ROC] at h;obtain ⟨v,rfl,h1⟩:=h;simp only [List.mem_singleton] at hu;rw [hu];exact h1
 | .ptr _ _ _,c,h,u,hu=>by simp [ROC] at h
 | .ref _ _,c,h,u,hu=>by simp [ROC] at h
 | .clo _ _,c,h,u,hu=>by simp [ROC] at h
 | .agg cs,c,h,u,hu=>by simp only [ROC] at h;exact ROL.ones cs c h u hu
 | .own sz xs,c,h,u,hu=>by simp [ROC] at h
 | .rop _ _,c,h,u,hu=>by simp [ROC] at h
 | .tup _,c,h,u,hu=>by simp [ROC] at h
 | .bool b,c,h,u,hu=>by simp only [ROC] at h;subst h;simp only [List.mem_singleton] at hu;rw [hu];rfl
 | .int k n,c,h,u,hu=>by simp only [ROC] at h;subst h;simp only [List.mem_singleton] at hu;rw [hu];rfl
 | .str s,c,h,u,hu=>by simp only [ROC] at h;subst h;simp only [List.mem_singleton] at hu;rw [hu];rfl
 | .nilp,c,h,u,hu=>by simp only [ROC] at h;subst h;simp only [List.mem_singleton] at hu;rw [hu];rfl
 | .unk,c,h,u,hu=>by simp only [ROC] at h;obtain ⟨v,rfl,hv⟩:=h;simp only [List.mem_singleton] at hu;rw [hu];exact hv
 | .nils _,c,h,u,hu=>by simp only [ROC] at h;subst h;simp only [List.mem_singleton] at hu;rw [hu];rfl
 | .ro t sz xs,c,h,u,hu=>by simp only [ROC] at h;obtain ⟨a,cap,rfl,_⟩:=h;simp only [List.mem_singleton] at hu;rw [hu];rfl
theorem ROL.ones {w:World} {fz:Nat→Prop} : ∀(xs:List AVal) (c:List Value),ROL w fz xs c → ∀u∈c,u.oneCell'=true
 | [],c,h,u,hu=>by simp only [ROL] at h;rw [h] at hu;simp at hu
 | x::xs,c,h,u,hu=>by
   simp only [ROL] at h
   obtain ⟨v,r,rfl,h1,h2⟩:=h
   rcases List.mem_cons.1 hu with rfl|hu
   · exact ROC.ones x _ h1 _ (by simp)
   · exact ROL.ones xs r h2 u hu
end
theorem OwL.length {w:World} {fz:Nat→Prop} {E:Env2} : ∀{xs:List AVal} {c:List Value} {f:Foot},OwL w fz E xs c f→c.length=xs.length
 | [],_,_,h=>by simp only [OwL] at h;simp [h.1]
 | x::xs,c,f,h=>by
   simp only [OwL] at h;obtain ⟨v,r,f1,f2,rfl,_,h2,_⟩:=h;simp [OwL.length h2]
theorem set_self {α:Type} : ∀(l:List α) (i:Nat) (v:α),l[i]? = some v→l.set i v=l
 | [],i,v,h=>by simp at h
 | x::l,0,v,h=>by simp at h;simp [h]
 | x::l,i+1,v,h=>by simp only [List.set];rw [set_self l i v (by simpa using h)]
theorem OwL.at {w:World} {fz:Nat→Prop} {E:Env2} : ∀{xs:List AVal} {c:List Value} {f:Foot} (i:Nat),OwL w fz E xs c f→i<xs.length →
 ∃(v:Value) (f1 f2:Foot),c[i]? = some v∧OwC w fz E (xs.getD i .und) [v] f1∧(∀b,f b=f1 b+f2 b) ∧
  ∀(y:AVal) (v':Value) (f3:Foot),OwC w fz E y [v'] f3→OwL w fz E (xs.set i y) (c.set i v') (fun b=>f3 b+f2 b)
 | [],_,_,i,_,hi=>by simp at hi
 | x::xs,c,f,0,h,_=>by
   simp only [OwL] at h
   obtain ⟨v,r,f1,f2,rfl,h1,h2,hff⟩:=h
   refine ⟨v,f1,f2,rfl,h1,hff,fun y v' f3 hy => ?_⟩
   simp only [List.set,OwL]
   exact ⟨v',r,f3,f2,rfl,hy,h2,fun _=>rfl⟩
 | x::xs,c,f,i+1,h,hi=>by
   simp only [OwL] at h
   obtain ⟨v,r,f1,f2,rfl,h1,h2,hff⟩:=h
   obtain ⟨u,g1,g2,hu,hx,hg,hk⟩:=OwL.at i h2 (by simpa using hi)
   refine ⟨u,g1,fun b=>f1 b+g2 b,by simpa using hu,by simpa using hx,fun b=>by dsimp only;rw [hff,hg];omega,?_⟩
   intro y v' f3 hy
   simp only [List.set,OwL]
   exact ⟨v,r.set i v',f1,fun b=>f3 b+g2 b,rfl,h1,hk y v' f3 hy,fun b=>by dsimp only;omega⟩
theorem OwX.at {w:World} {fz:Nat→Prop} {E:Env2} : ∀{xs:List AVal} {sz:Nat} {c:List Value} {f:Foot} (i:Nat),OwX w fz E xs sz c f→i<xs.length →
 ∃(c1:List Value) (f1 f2:Foot),c1=(c.drop (i*sz)).take sz∧c1.length=sz∧OwC w fz E (xs.getD i .und) c1 f1∧(∀b,f b=f1 b+f2 b) ∧
  ∀(y:AVal) (c':List Value) (f3:Foot),c'.length=sz→OwC w fz E y c' f3→OwX w fz E (xs.set i y) sz (c.take (i*sz)++(c'++c.drop (i*sz+sz))) (fun b=>f3 b+f2 b)
 | [],_,_,_,i,_,hi=>by simp at hi
 | x::xs,sz,c,f,0,h,_=>by
   simp only [OwX] at h
   obtain ⟨c1,c2,f1,f2,rfl,hl,h1,h2,hff⟩:=h
   refine ⟨c1,f1,f2,by simp [←hl],hl,h1,hff,fun y c' f3 hc' hy => ?_⟩
   simp only [List.set,OwX]
   exact ⟨c',c2,f3,f2,by simp [←hl],hc',hy,h2,fun _=>rfl⟩
 | x::xs,sz,c,f,i+1,h,hi=>by
   simp only [OwX] at h
   obtain ⟨c1,c2,f1,f2,rfl,hl,h1,h2,hff⟩:=h
   obtain ⟨d1,g1,g2,hd,hdl,hx,hg,hk⟩:=OwX.at i h2 (by simpa using hi)
   have e1:(c1++c2).drop ((i+1)*sz)=c2.drop (i*sz):=by
    rw [Nat.add_mul,Nat.one_mul,Nat.add_comm,List.drop_append,hl];simp [List.drop_of_length_le,hl]
   have e2:(c1++c2).take ((i+1)*sz)=c1++c2.take (i*sz):=by
    rw [Nat.add_mul,Nat.one_mul,Nat.add_comm,List.take_append,hl];simp [List.take_of_length_le,hl]
   have e3:(c1++c2).drop ((i+1)*sz+sz)=c2.drop (i*sz+sz):=by
    rw [Nat.add_mul,Nat.one_mul,show i*sz+sz+sz=sz+(i*sz+sz) by omega,List.drop_append,hl];simp [List.drop_of_length_le,hl]
   refine ⟨d1,g1,fun b=>f1 b+g2 b,by rw [e1];exact hd,hdl,by simpa using hx,fun b=>by dsimp only;rw [hff,hg];omega,?_⟩
   intro y c' f3 hc' hy
   simp only [List.set,OwX]
   refine ⟨c1,c2.take (i*sz)++(c'++c2.drop (i*sz+sz)),f1,fun b=>f3 b+g2 b,by rw [e2,e3,List.append_assoc],hl,h1,hk y c' f3 hc' hy,fun b=>by dsimp only;omega⟩
def LocAt (w:World) (l:Loc) (c:List Value):Prop:=
 match l with
 | .mem b o => ∃cs,RBlk w b cs∧o+c.length≤cs.size∧(cs.toList.drop o).take c.length=c
 | .val v=>c=[v]
theorem LocAt.hd {w:World} {l:Loc} {v:Value} (h:LocAt w l [v]):hdOf w l=some v:=by
 cases l with
 | val u=>simp only [LocAt] at h;simp at h;simp [hdOf,h]
 | mem b o=>
   simp only [LocAt] at h
   obtain ⟨cs,hB,hle,hc⟩:=h
   simp only [hdOf];rw [hB.cell]
   have h0:=congrArg (·[0]?) hc
   simpa using h0
theorem take_drop_get {α:Type} {l c:List α} {o n:Nat} (h:(l.drop o).take n=c) {i:Nat} (hi:i<n):l[o+i]? = c[i]? := by
 rw [←h,List.getElem?_take,if_pos hi,List.getElem?_drop]
theorem LocAt.cellAt {w:World} {b o:Nat} {c:List Value} (h:LocAt w (.mem b o) c) {i:Nat} {v:Value} (hv:c[i]? = some v):LocAt w (.mem b (o+i)) [v]:=by
 simp only [LocAt] at h ⊢
 obtain ⟨cs,hB,hle,hc⟩:=h
 have hi:i<c.length:=(List.getElem?_eq_some_iff.1 hv).1
 refine ⟨cs,hB,by simp;omega,?_⟩
 have hx:cs.toList[o+i]? = some v:=by rw [take_drop_get hc hi,hv]
 have hlt:o+i<cs.toList.length:=(List.getElem?_eq_some_iff.1 hx).1
 rw [List.drop_eq_getElem_cons hlt]
 have:cs.toList[o+i]=v:=by rw [List.getElem?_eq_getElem hlt] at hx;simpa using hx
 simp [this]
theorem LocAt.seg {w:World} {b:Nat} {cs:Array Value} {o m n:Nat} (hB:RBlk w b cs) (hle:o+n+m≤cs.size):LocAt w (.mem b (o+n)) (((cs.toList.drop o).drop n).take m):=by
 simp only [LocAt]
 have hl:(((cs.toList.drop o).drop n).take m).length=m:=by simp;omega
 refine ⟨cs,hB,by rw [hl];omega,?_⟩
 rw [hl,List.drop_drop]
theorem ROL.length {w:World} {fz:Nat→Prop} : ∀{xs:List AVal} {c:List Value},ROL w fz xs c→c.length=xs.length
 | [],_,h=>by simp only [ROL] at h;simp [h]
 | x::xs,c,h=>by simp only [ROL] at h;obtain ⟨v,r,rfl,_,h2⟩:=h;simp [ROL.length h2]
theorem ROL.at {w:World} {fz:Nat→Prop} : ∀{xs:List AVal} {c:List Value} (i:Nat),ROL w fz xs c→i<xs.length → ∃v,c[i]? = some v∧ROC w fz (xs.getD i .und) [v]
 | [],_,i,_,hi=>by simp at hi
 | x::xs,c,0,h,_=>by simp only [ROL] at h;obtain ⟨v,r,rfl,h1,_⟩:=h;exact ⟨v,rfl,h1⟩
 | x::xs,c,i+1,h,hi=>by
   simp only [ROL] at h;obtain ⟨v,r,rfl,_,h2⟩:=h
   obtain ⟨u,hu,hx⟩:=ROL.at i h2 (by simpa using hi)
   exact ⟨u,by simpa using hu,by simpa using hx⟩
theorem ROX.at {w:World} {fz:Nat→Prop} : ∀{xs:List AVal} {sz:Nat} {c:List Value} (i:Nat),ROX w fz xs sz c→i<xs.length →
 ((c.drop (i*sz)).take sz).length=sz∧ROC w fz (xs.getD i .und) ((c.drop (i*sz)).take sz)
 | [],_,_,i,_,hi=>by simp at hi
 | x::xs,sz,c,0,h,_=>by
   simp only [ROX] at h;obtain ⟨c1,c2,rfl,hl,h1,_⟩:=h
   have:(c1++c2).take sz=c1:=by rw [←hl];simp
   simp [this,hl,h1]
 | x::xs,sz,c,i+1,h,hi=>by
   simp only [ROX] at h;obtain ⟨c1,c2,rfl,hl,_,h2⟩:=h
   have e1:(c1++c2).drop ((i+1)*sz)=c2.drop (i*sz):=by
    rw [Nat.add_mul,Nat.one_mul,Nat.add_comm,List.drop_append,hl];simp [List.drop_of_length_le,hl]
   rw [e1]
   simpa using ROX.at i h2 (by simpa using hi)
def RdC (w:World) (fz:Nat→Prop) (E:Env2) (x:AVal) (c:List Value) (f:Foot):Prop:=
 (∃f1,(∀b,f1 b≤f b)∧OwC w fz E x c f1)∨ROC w fz x c
theorem walk_read {w:World} {fz:Nat→Prop} : ∀(p:List Nat) (E:Env2) (x:AVal) (c:List Value) (f:Foot) (l:Loc),RdC w fz E x c f→LocAt w l c→(aggQ x=true → ∃b o,l=.mem b o)→x.okg p=true →
 ∃l' c' E',walk w x l p=some l'∧LocAt w l' c'∧RdC w fz E' (x.get p) c' f∧(E'=E∨E'=NoE)∧(p≠[] → ∃b o,l'=.mem b o)
 | [],E,x,c,f,l,h,hl,_,_=>⟨l,c,E,by cases x <;> simp [walk],hl,by cases x <;> simpa [AVal.get] using h,.inl rfl,by simp⟩
 | i::p,E,x,c,f,l,h,hl,hag,hp=>by
   cases x with
   | agg cs=>
     obtain ⟨b,o,rfl⟩:=hag rfl
     simp only [AVal.okg,Bool.and_eq_true,Nat.blt_eq] at hp
     have : ∃v,c[i]? = some v∧RdC w fz E (cs.getD i .und) [v] f:=by
      rcases h with ⟨f1,hf1,h⟩|h
      · simp only [OwC] at h
        obtain ⟨v,g1,g2,hv,hx,hg,_⟩:=OwL.at i h hp.1
        exact ⟨v,hv,.inl ⟨g1,fun b=>by have:=hf1 b;have:=hg b;omega,hx⟩⟩
      · simp only [ROC] at h
        obtain ⟨v,hv,hx⟩:=ROL.at i h hp.1
        exact ⟨v,hv,.inr hx⟩
     obtain ⟨v,hv,hx⟩:=this
     obtain ⟨l',c',E',h1,h2,h3,h4,h5⟩:=walk_read p E _ _ f _ hx (hl.cellAt hv) (fun _=>⟨_,_,rfl⟩) hp.2
     refine ⟨l',c',E',by simp only [walk];rw [if_pos hp.1];exact h1,h2,by simpa [AVal.get] using h3,h4,fun _ => ?_⟩
     by_cases hpe:p=[]
     · subst hpe
       have:walk w (cs.getD i .und) (.mem b (o+i)) []=some (.mem b (o+i)):=by cases cs.getD i .und <;> rfl
       rw [this] at h1;exact ⟨_,_,(Option.some.inj h1).symm⟩
     · exact h5 hpe
   | own sz xs=>
     simp only [AVal.okg,Bool.and_eq_true,Nat.blt_eq] at hp
     rcases h with ⟨f1,hf1,h⟩|h
     · simp only [OwC] at h
       obtain ⟨a,cap,rfl,hlen,h⟩:=h
       have hne : ¬(cap=0 ∧ ∀b,f1 b=0):=by rintro ⟨h0,_⟩;omega
       obtain ⟨hz,g,off,cs,f',rfl,hB,hle,hX,hff⟩:=h.resolve_left hne
       obtain ⟨d,g1,g2,rfl,hdl,hx,hg,_⟩:=OwX.at i hX hp.1
       have hsz:off+i*sz+sz≤cs.size:=by
        have:(i+1)*sz≤cap*sz:=Nat.mul_le_mul_right _ (by omega)
        rw [Nat.add_mul] at this;omega
       obtain ⟨l',c',E',h1,h2,h3,h4,h5⟩:=walk_read p NoE _ _ f (.mem g (off+i*sz)) (.inl ⟨g1,fun b=>by have:=hf1 b;have:=hff b;have:=hg b;omega,hx⟩) (LocAt.seg hB.r hsz) (fun _=>⟨_,_,rfl⟩) hp.2
       refine ⟨l',c',E',by simp only [walk];rw [if_pos hp.1,hl.hd];exact h1,h2,by simpa [AVal.get] using h3,by rcases h4 with h4|h4 <;> exact .inr h4,fun _ => ?_⟩
       by_cases hpe:p=[]
       · subst hpe
         have:walk w (xs.getD i .und) (.mem g (off+i*sz)) []=some (.mem g (off+i*sz)):=by cases xs.getD i .und <;> rfl
         rw [this] at h1;exact ⟨_,_,(Option.some.inj h1).symm⟩
       · exact h5 hpe
     · simp [ROC] at h
   | ro t sz xs=>
     simp only [AVal.okg,Bool.and_eq_true,Nat.blt_eq] at hp
     have h:ROC w fz (.ro t sz xs) c:=by
      rcases h with ⟨f1,hf1,h⟩|h
      · simp only [OwC] at h;exact h.1
      · exact h
     simp only [ROC] at h
     obtain ⟨a,cap,rfl,hlen,_,hx⟩:=h
     have hxn:xs≠[]:=by rintro rfl;simp at hp
     obtain ⟨hz,g,off,cs,rfl,hg,hB,hX⟩:=hx hxn
     obtain ⟨hdl,hxx⟩:=ROX.at i hX hp.1
     have hsz:off+i*sz+sz≤cs.size:=by
      simp at hdl;omega
     obtain ⟨l',c',E',h1,h2,h3,h4,h5⟩:=walk_read p NoE _ _ f (.mem g (off+i*sz)) (.inr hxx) (LocAt.seg hB hsz) (fun _=>⟨_,_,rfl⟩) hp.2
     refine ⟨l',c',E',by simp only [walk];rw [if_pos hp.1,hl.hd];exact h1,h2,by simpa [AVal.get] using h3,by rcases h4 with h4|h4 <;> exact .inr h4,fun _ => ?_⟩
     by_cases hpe:p=[]
     · subst hpe
       have:walk w (xs.getD i .und) (.mem g (off+i*sz)) []=some (.mem g (off+i*sz)):=by cases xs.getD i .und <;> rfl
       rw [this] at h1;exact ⟨_,_,(Option.some.inj h1).symm⟩
     · exact h5 hpe
   | tup vs=>rcases h with ⟨f1,hf1,h⟩|h <;> simp [OwC,ROC] at h
   | _=>simp [AVal.okg] at hp
def deepE (E:Env2):AVal→List Nat→Env2
 | .agg cs,c::p=>deepE E (cs.getD c .und) p
 | .own _ _,_::_=>NoE
 | _,_=>E
theorem deepE_no : ∀(x:AVal) (p:List Nat),deepE NoE x p=NoE
 | x,[]=>by cases x <;> rfl
 | x,i::p=>by cases x <;> first|rfl|exact deepE_no _ p
theorem set_getD {xs:List AVal} {i:Nat} (h:i<xs.length):xs.set i (xs.getD i .und)=xs:=by
 rw [List.getD_eq_getElem?_getD,List.getElem?_eq_getElem h];simp
theorem seg_split {c d:List Value} {m n:Nat} (hd:d=(c.drop m).take n):c.take m++(d++c.drop (m+n))=c:=by
 rw [hd]
 have:c.drop (m+n)=(c.drop m).drop n:=by simp only [List.drop_drop]
 rw [this,List.take_append_drop,List.take_append_drop]
theorem walk_nil (w:World) (x:AVal) (l:Loc):walk w x l []=some l:=by cases x <;> simp [walk]
theorem split {w:World} {fz:Nat→Prop} : ∀(p:List Nat) (E:Env2) (x:AVal) (c:List Value) (f:Foot) (l:Loc),OwC w fz E x c f→LocAt w l c→(aggQ x=true → ∃b o,l=.mem b o)→x.okp p=true →
 ∃(c1:List Value) (f1 f2:Foot) (l1:Loc),walk w x l p=some l1∧LocAt w l1 c1∧(p≠[] → ∃b o,l1=.mem b o)∧OwC w fz (deepE E x p) (x.get p) c1 f1∧(∀b,f b=f1 b+f2 b) ∧
  ∀(y:AVal) (f3:Foot),OwC w fz (deepE E x p) y c1 f3→OwC w fz E (x.put p y) c (fun b=>f3 b+f2 b)
 | [],E,x,c,f,l,h,hl,_,_=>by
   refine ⟨c,f,zf,l,walk_nil w x l,hl,by simp,?_,fun b=>by simp [zf],?_⟩
   · cases x <;> simpa [deepE,AVal.get] using h
   · intro y f3 hy
     have:deepE E x []=E:=by cases x <;> rfl
     rw [this] at hy
     cases x <;> simpa [AVal.put,zf] using hy
 | i::p,E,x,c,f,l,h,hl,hag,hp=>by
   cases x with
   | agg cs=>
     obtain ⟨b,o,rfl⟩:=hag rfl
     simp only [AVal.okp,Bool.and_eq_true,Nat.blt_eq] at hp
     simp only [OwC] at h
     obtain ⟨v,f1,f2,hv,hx,hff,hk⟩:=OwL.at i h hp.1
     obtain ⟨c1,g1,g2,l1,hw,hl1,hm,hg,hgg,hk2⟩:=split p E _ _ _ _ hx (hl.cellAt hv) (fun _=>⟨_,_,rfl⟩) hp.2
     refine ⟨c1,g1,fun b=>g2 b+f2 b,l1,by simp only [walk];rw [if_pos hp.1];exact hw,hl1,fun _ => ?_,by simpa [deepE,AVal.get] using hg,fun b=>by dsimp only;rw [hff,hgg];omega,?_⟩
     · by_cases hpe:p=[]
       · subst hpe;rw [walk_nil] at hw;exact ⟨_,_,(Option.some.inj hw).symm⟩
       · exact hm hpe
     intro y f3 hy
     have:=hk _ v _ (hk2 y f3 (by simpa [deepE] using hy))
     simp only [AVal.put,OwC]
     rw [set_self _ _ _ hv] at this
     have e:(fun b=>f3 b+(g2 b+f2 b))=(fun b=>f3 b+g2 b+f2 b):=by funext b;omega
     rw [e];exact this
   | own sz xs=>
     simp only [AVal.okp,Bool.and_eq_true,Nat.blt_eq] at hp
     simp only [OwC] at h
     obtain ⟨a,cap,rfl,hlen,h⟩:=h
     have hne : ¬(cap=0 ∧ ∀b,f b=0):=by rintro ⟨h0,_⟩;omega
     obtain ⟨hz,g,off,cs,f',rfl,hB,hle,hX,hff⟩:=h.resolve_left hne
     obtain ⟨d,f1,f2,hd,hdl,hx,hff2,hk⟩:=OwX.at i hX hp.1
     have hsz:off+i*sz+sz≤cs.size:=by
      have:(i+1)*sz≤cap*sz:=Nat.mul_le_mul_right _ (by omega)
      rw [Nat.add_mul] at this;omega
     have hseg:LocAt w (.mem g (off+i*sz)) d:=by rw [hd];exact LocAt.seg hB.r hsz
     obtain ⟨c1,g1,g2,l1,hw,hl1,hm,hg,hgg,hk2⟩:=split p NoE _ _ _ _ hx hseg (fun _=>⟨_,_,rfl⟩) hp.2
     rw [deepE_no] at hg hk2
     refine ⟨c1,g1,fun b=>g2 b+f2 b+if b=g then 1 else 0,l1,by simp only [walk];rw [if_pos hp.1,hl.hd];exact hw,hl1,fun _ => ?_,by simpa [deepE,AVal.get] using hg,fun b=>by dsimp only;rw [hff,hff2,hgg];omega,?_⟩
     · by_cases hpe:p=[]
       · subst hpe;rw [walk_nil] at hw;exact ⟨_,_,(Option.some.inj hw).symm⟩
       · exact hm hpe
     intro y f3 hy
     have h3:=hk _ d _ hdl (hk2 y f3 (by simpa [deepE] using hy))
     rw [seg_split hd] at h3
     simp only [AVal.put,OwC]
     refine ⟨_,cap,by simp,by simpa using hlen,.inr ⟨hz,g,off,cs,_,rfl,hB,hle,h3,fun b=>by omega⟩⟩
   | tup vs=>simp [OwC] at h
   | _=>simp [AVal.okp] at hp
def Easy (fz:Nat→Prop) (y:AVal) (ch:List Value→List Value):Prop:=
 (∀c,(ch c).length=c.length) ∧ ∀w E c f,OwC w fz E y c f→OwC w fz E y (ch c) f
theorem poke {w:World} {fz:Nat→Prop} {ch:List Value→List Value} : ∀(p:List Nat) (E:Env2) (x:AVal) (c:List Value) (f:Foot) (l:Loc),OwC w fz E x c f→LocAt w l c→(aggQ x=true → ∃b o,l=.mem b o)→(∀b,f b≤1)→x.okp p=true→Easy fz (x.get p) ch → ∀b1 o1,walk w x l p=some (.mem b1 o1) →
 ∃c1,LocAt w (.mem b1 o1) c1∧(∃E1 f1,OwC w fz E1 (x.get p) c1 f1) ∧
 ((∃b o j,l=.mem b o∧b1=b∧o1=o+j∧j+c1.length≤c.length∧OwC w fz E x (c.take j++(ch c1++c.drop (j+c1.length))) f) ∨
  (f b1=1 ∧ ∃cs,Blk w b1 cs∧o1+c1.length≤cs.size ∧ ∀(w1:World) (cs':Array Value) (E':Env2),cs'.size=cs.size→cs'.toList=cs.toList.take o1++(ch c1++cs.toList.drop (o1+c1.length))→keepE (fun _=>false) E E'→(∀b,b≠b1→w1.heap[b]? = w.heap[b]?)→(∀b,fz b→b≠b1)→Blk w1 b1 cs'→OwC w1 fz E' x c f))
 | [],E,x,c,f,l,h,hl,_,_,_,hy,b1,o1,hw=>by
   rw [walk_nil] at hw
   obtain rfl:=Option.some.inj hw
   have hg:x.get []=x:=by cases x <;> rfl
   rw [hg] at hy
   refine ⟨c,hl,⟨E,f,by rw [hg];exact h⟩,.inl ⟨b1,o1,0,rfl,rfl,rfl,by omega,?_⟩⟩
   simpa using hy.2 w E c f h
 | i::p,E,x,c,f,l,h,hl,hag,hone,hp,hy,b1,o1,hw=>by
   cases x with
   | agg cs=>
     obtain ⟨b,o,rfl⟩:=hag rfl
     simp only [AVal.okp,Bool.and_eq_true,Nat.blt_eq] at hp
     simp only [walk] at hw
     rw [if_pos hp.1] at hw
     simp only [AVal.get] at hy ⊢
     simp only [OwC] at h
     have hlen:=OwL.length h
     obtain ⟨v,f1,f2,hv,hx,hff,hk⟩:=OwL.at i h hp.1
     obtain ⟨c1,hl1,hx1,hor⟩:=poke (ch:=ch) p E _ _ f1 _ hx (hl.cellAt hv) (fun _=>⟨_,_,rfl⟩) (fun b=>by have:=hone b;have:=hff b;omega) hp.2 hy b1 o1 hw
     refine ⟨c1,hl1,hx1,?_⟩
     rcases hor with ⟨b',o',j,hl',hb,ho,hj,hkk⟩|⟨hf1,cs1,hB,ho,hkk⟩
     · simp at hl'
       obtain ⟨rfl,rfl⟩:=hl'
       have hi:i<c.length:=(List.getElem?_eq_some_iff.1 hv).1
       by_cases h0:c1=[]
       · subst h0
         have hch:ch []=[]:=List.eq_nil_of_length_eq_zero (by rw [hy.1];rfl)
         refine .inl ⟨b,o,i+j,rfl,hb,by omega,by simp at hj ⊢;omega,?_⟩
         rw [hch];simp only [List.nil_append,List.length_nil,Nat.add_zero,List.take_append_drop,OwC];exact h
       · have hj1:j=0∧c1.length=1:=by
          have:0<c1.length:=by cases c1 <;> simp at h0 ⊢
          simp at hj;omega
         obtain ⟨rfl,hc1⟩:=hj1
         refine .inl ⟨b,o,i,rfl,hb,by omega,by omega,?_⟩
         obtain ⟨v',hv'⟩ : ∃v',ch c1=[v']:=by
          have:=hy.1 c1;rw [hc1] at this
          match ch c1,this with
          | [v'],_=>exact ⟨v',rfl⟩
         rw [hv',hc1] at hkk
         simp only [List.take_zero,List.nil_append,Nat.zero_add] at hkk
         have h7:=hk _ v' f1 (by simpa using hkk)
         simp only [OwC]
         have e2:(fun b=>f1 b+f2 b)=f:=by funext b;rw [hff]
         have e3:c.take i++(ch c1++c.drop (i+c1.length))=c.set i v':=by
          rw [hv',hc1,List.set_eq_take_append_cons_drop,if_pos hi];rfl
         rw [e3,←e2]
         have e1:cs.set i (cs.getD i .und)=cs:=set_getD hp.1
         have h8:=h7
         rw [show cs.set i (cs[i]?.getD .und)=cs by simpa using e1] at h8
         exact h8
     · refine .inr ⟨by have:=hone b1;have:=hff b1;omega,cs1,hB,ho,fun w1 cs' E' hsz hcs hE hs hfz hB1 => ?_⟩
       have h2:=hkk w1 cs' E' hsz hcs hE hs hfz hB1
       have hf2:f2 b1=0:=by have:=hone b1;have:=hff b1;omega
       have hrest:=hk .und v zf (by simp only [OwC];exact ⟨⟨v,rfl,OwC.ones _ _ _ hx v (by simp)⟩,fun _=>rfl⟩)
       have hrest1:=OwL.mono (w':=w1) (fz':=fz) (fun b hb=>⟨hb,hs b (hfz b hb)⟩) _ E E' hE _ _ (fun b hb=>hs b (by rintro rfl;simp [zf,hf2] at hb)) hrest
       obtain ⟨v2,g1,g2,hv2,hx2,hgg,hk2⟩:=OwL.at i hrest1 (by simpa using hp.1)
       have e0:(cs.set i AVal.und).getD i .und=.und:=by simp [hp.1]
       rw [e0] at hx2
       simp only [OwC] at hx2
       have:=hk2 _ v f1 h2
       simp only [OwC]
       have e:(cs.set i AVal.und).set i (cs.getD i .und)=cs:=by rw [List.set_set,set_getD hp.1]
       have e1:(c.set i v).set i v=c:=by rw [List.set_set,set_self _ _ _ hv]
       rw [e,e1] at this
       have e2:(fun b=>f1 b+g2 b)=f:=by funext b;have a1:=hgg b;have a2:=hx2.2 b;have a3:=hff b;simp [zf] at a1;omega
       rw [e2] at this;exact this
   | own sz xs=>
     simp only [AVal.okp,Bool.and_eq_true,Nat.blt_eq] at hp
     simp only [AVal.get] at hy ⊢
     simp only [OwC] at h
     obtain ⟨a,cap,rfl,hlen,h⟩:=h
     have hne : ¬(cap=0 ∧ ∀b,f b=0):=by rintro ⟨h0,_⟩;omega
     obtain ⟨hz,g,off,cs,f',rfl,hB,hle,hX,hff⟩:=h.resolve_left hne
     simp only [walk] at hw
     rw [if_pos hp.1,hl.hd] at hw
     simp only at hw
     obtain ⟨d,f1,f2,hd,hdl,hx,hff2,hk⟩:=OwX.at i hX hp.1
     have hsz:off+i*sz+sz≤cs.size:=by
      have:(i+1)*sz≤cap*sz:=Nat.mul_le_mul_right _ (by omega)
      rw [Nat.add_mul] at this;omega
     have hg1:f' g=0:=by have:=hone g;have:=hff g;simp at this;omega
     have hseg:LocAt w (.mem g (off+i*sz)) d:=by rw [hd];exact LocAt.seg hB.r hsz
     obtain ⟨c1,hl1,hx1,hor⟩:=poke (ch:=ch) p NoE _ _ f1 _ hx hseg (fun _=>⟨_,_,rfl⟩) (fun b=>by have:=hone b;have:=hff b;have:=hff2 b;omega) hp.2 hy b1 o1 hw
     refine ⟨c1,hl1,hx1,?_⟩
     rcases hor with ⟨b',o',j,hl',rfl,rfl,hj,hkk⟩|⟨hf1,cs1,hB1,ho,hkk⟩
     · simp at hl'
       obtain ⟨rfl,rfl⟩:=hl'
       refine .inr ⟨by rw [hff,hg1];simp,cs,hB,by omega,fun w1 cs' E' hsz' hcs hE hs hfz hBn => ?_⟩
       have hchl:=hy.1 c1
       have hdl':(d.take j++(ch c1++d.drop (j+c1.length))).length=sz:=by simp [hchl];omega
       have h3:=hk _ _ f1 hdl' hkk
       rw [set_getD hp.1] at h3
       have hcells:(cs.toList.drop off).take (i*sz)++((d.take j++(ch c1++d.drop (j+c1.length)))++(cs.toList.drop off).drop (i*sz+sz))=cs'.toList.drop off:=by
        rw [hcs]
        apply List.ext_getElem?
        intro n
        have hdget : ∀m,m<sz→d[m]? = cs.toList[off+i*sz+m]? := by
         intro m hm;rw [hd,List.getElem?_take,if_pos hm,List.getElem?_drop,List.getElem?_drop];congr 1;omega
        have hl0:((cs.toList.drop off).take (i*sz)).length=i*sz:=by simp;omega
        have hla:(d.take j).length=j:=by simp;omega
        have hlt:(cs.toList.take (off+i*sz+j)).length=off+i*sz+j:=by simp;omega
        rw [List.getElem?_append,hl0,List.getElem?_drop,List.getElem?_append (l₁:=cs.toList.take (off+i*sz+j)),hlt]
        by_cases h1:n<i*sz
        · rw [if_pos h1,List.getElem?_take,if_pos h1,List.getElem?_drop,if_pos (by omega),List.getElem?_take,if_pos (by omega)]
        · rw [if_neg h1,List.getElem?_append,hdl']
          by_cases h2:n-i*sz<sz
          · rw [if_pos h2,List.getElem?_append,hla]
            by_cases h4:n-i*sz<j
            · rw [if_pos h4,List.getElem?_take,if_pos h4,hdget _ h2,if_pos (by omega),List.getElem?_take,if_pos (by omega)];congr 1;omega
            · rw [if_neg h4,List.getElem?_append,hchl,if_neg (by omega : ¬off+n<off+i*sz+j),List.getElem?_append,hchl]
              by_cases h5:n-i*sz-j<c1.length
              · rw [if_pos h5,if_pos (by omega)];congr 1;omega
              · rw [if_neg h5,List.getElem?_drop,hdget _ (by omega),if_neg (by omega),List.getElem?_drop];congr 1;omega
          · rw [if_neg h2,List.getElem?_drop,List.getElem?_drop,if_neg (by omega),List.getElem?_append,hchl,if_neg (by omega),List.getElem?_drop];congr 1;omega
       rw [hcells] at h3
       have h4:=OwX.mono (w':=w1) (fz':=fz) (fun b hb=>⟨hb,hs b (hfz b hb)⟩) _ NoE NoE (fun _ _ _ h=>h) _ _ _ (fun b hb=>hs b (by intro he;have hb':0<f1 b+f2 b:=hb;have h1:=hff2 b;rw [he] at h1 hb';omega)) h3
       have e2:(fun b=>f1 b+f2 b)=f':=by funext b;rw [hff2]
       rw [e2] at h4
       simp only [OwC]
       exact ⟨_,cap,rfl,hlen,.inr ⟨hz,g,off,_,f',rfl,hBn,by rw [hsz'];exact hle,h4,hff⟩⟩
     · have hb1g:b1≠g:=by rintro rfl;have:=hff2 b1;omega
       refine .inr ⟨by have:=hone b1;have:=hff b1;have:=hff2 b1;rw [if_neg hb1g] at *;omega,cs1,hB1,ho,fun w1 cs' E' hsz' hcs hE hs hfz hBn => ?_⟩
       have h2:=hkk w1 cs' NoE hsz' hcs (fun _ _ _ h=>h) hs hfz hBn
       have hf2:f2 b1=0:=by have:=hone b1;have:=hff b1;have:=hff2 b1;rw [if_neg hb1g] at *;omega
       have hlen2 : ∀y:AVal,OwC w fz NoE y d zf→OwX w1 fz NoE (xs.set i y) sz (cs.toList.drop off) f2:=by
        intro y hy
        have h5:=hk y d zf hdl hy
        rw [seg_split hd] at h5
        have e3:(fun b=>zf b+f2 b)=f2:=by funext b;simp [zf]
        rw [e3] at h5
        exact OwX.mono (w':=w1) (fz':=fz) (fun b hb=>⟨hb,hs b (hfz b hb)⟩) _ NoE NoE (fun _ _ _ h=>h) _ _ _ (fun b hb=>hs b (by rintro rfl;omega)) h5
       have hhole:=hlen2 (.agg (List.replicate d.length .und)) (by simp only [OwC];exact undL w fz NoE d (OwC.ones _ _ _ hx))
       obtain ⟨d2,m1,m2,hd2,hdl2,hxx,hmm,hkm⟩:=OwX.at i hhole (by simpa using hp.1)
       have hm1 : ∀b,m1 b=0:=by
        have:(xs.set i (.agg (List.replicate d.length .und))).getD i .und=.agg (List.replicate d.length .und):=by simp [hp.1]
        rw [this] at hxx;simp only [OwC] at hxx;exact undL_zero hxx
       have h6:=hkm _ d f1 hdl h2
       rw [seg_split hd,List.set_set,set_getD hp.1] at h6
       have e4:(fun b=>f1 b+m2 b)=f':=by funext b;have:=hmm b;have:=hm1 b;have:=hff2 b;omega
       rw [e4] at h6
       simp only [OwC]
       exact ⟨_,cap,rfl,hlen,.inr ⟨hz,g,off,cs,f',rfl,hB.same (hs g (Ne.symm hb1g)),hle,h6,hff⟩⟩
   | tup vs=>simp [OwC] at h
   | _=>simp [AVal.okp] at hp
where
 undL (w:World) (fz:Nat→Prop) (E:Env2) : ∀(d:List Value),(∀u∈d,u.oneCell'=true)→OwL w fz E (List.replicate d.length .und) d zf
  | [],_=>by simp [OwL,zf]
  | v::d,h=>by
    simp only [List.length_cons,List.replicate_succ,OwL]
    exact ⟨v,d,zf,zf,rfl,by simp only [OwC];exact ⟨⟨v,rfl,h v (by simp)⟩,fun _=>rfl⟩,poke.undL w fz E d (fun u hu=>h u (by simp [hu])),fun _=>rfl⟩
 undL_zero {w:World} {fz:Nat→Prop} {E:Env2} : ∀{n:Nat} {c:List Value} {f:Foot},OwL w fz E (List.replicate n .und) c f → ∀b,f b=0
  | 0,_,_,h=>by simp only [List.replicate_zero,OwL] at h;exact h.2
  | n+1,_,_,h=>by
    simp only [List.replicate_succ,OwL] at h
    obtain ⟨v,r,f1,f2,rfl,h1,h2,hff⟩:=h
    simp only [OwC] at h1
    intro b;rw [hff,h1.2,poke.undL_zero h2]
end Go.VK
namespace Go.VK
open AVal
theorem beq_ne {a b:Nat} (h:a≠b):Nat.beq a b=false:=by
 cases e:Nat.beq a b with
 | false=>rfl
 | true=>exact absurd (Nat.eq_of_beq_eq_true e) h
theorem lk_del {α:Type} (l:List (Nat×α)) (K J:Nat):lk (del l K) J=if J=K then none else lk l J:=by
 induction l with
 | nil=>simp [del,lk]
 | cons x r ih=>
   obtain ⟨s,v⟩:=x
   simp only [del]
   by_cases h:s=K
   · subst h;simp only [Nat.beq_refl,cond_true];rw [ih];by_cases hj:J=s
     · simp [hj]
     · rw [if_neg hj,if_neg hj];simp only [lk];rw [beq_ne (Ne.symm hj)];rfl
   · rw [beq_ne (h)]
     simp only [cond_false,lk]
     by_cases hs:s=J
     · subst hs;simp only [Nat.beq_refl,cond_true];rw [if_neg h]
     · rw [beq_ne (hs)];simp only [cond_false];exact ih
theorem lk_ins {α:Type} (l:List (Nat×α)) (K J:Nat) (v:α):lk (ins l K v) J=if J=K then some v else lk l J:=by
 simp only [ins,lk]
 by_cases h:K=J
 · subst h;simp
 · rw [beq_ne (h)]
   simp only [cond_false];rw [lk_del];simp [Ne.symm h]
theorem lk_append {α:Type} (l m:List (Nat×α)) (K:Nat):lk (l++m) K=(lk l K).or (lk m K):=by
 induction l with
 | nil=>simp [lk]
 | cons x r ih=>
   obtain ⟨s,v⟩:=x
   simp only [List.cons_append,lk]
   by_cases h:s=K
   · subst h;simp
   · rw [beq_ne (h)];simpa using ih
theorem mem_iff {K:Nat} {l:List Nat}:mem K l=true↔K∈l:=by
 induction l with
 | nil=>simp [mem]
 | cons j r ih=>simp only [mem,Bool.or_eq_true,ih,Nat.beq_eq,List.mem_cons];constructor <;> rintro (h|h) <;> simp [h]
theorem mem_false {K:Nat} {l:List Nat}:mem K l=false↔K∉l:=by
 rw [←mem_iff];simp
theorem lk_delAll {α:Type} (ks:List Nat) : ∀(l:List (Nat×α)) (J:Nat),lk (delAll l ks) J=if J∈ks then none else lk l J:=by
 induction ks with
 | nil=>intro l J;simp [delAll]
 | cons K r ih=>
   intro l J
   simp only [delAll];rw [ih,lk_del]
   by_cases h1:J∈r <;> by_cases h2:J=K <;> simp [h1,h2]
theorem lk_killObjs (b:AVal→Bool) (l:List (Nat×VObj)) (K:Nat):lk (killObjs b l) K=(lk l K).map fun o=>{ o with c:=killV b o.c }:=by
 induction l with
 | nil=>simp [killObjs,lk]
 | cons x r ih=>
   obtain ⟨s,v⟩:=x
   simp only [killObjs,lk]
   cases Nat.beq s K <;> simp [ih]
theorem lk_killIn (b:AVal→Bool) (l:List (Nat×AVal)) (K:Nat):lk (killIn b l) K=(lk l K).map (killV b):=by
 induction l with
 | nil=>simp [killIn,lk]
 | cons x r ih=>
   obtain ⟨s,v⟩:=x
   simp only [killIn,lk]
   cases Nat.beq s K <;> simp [ih]
theorem lk_mem {α:Type} {l:List (Nat×α)} {K:Nat} {v:α} (h:lk l K=some v):K∈l.map (·.1):=by
 induction l with
 | nil=>simp [lk] at h
 | cons x r ih=>
   obtain ⟨s,u⟩:=x
   simp only [lk] at h
   by_cases hs:s=K
   · simp [hs]
   · rw [beq_ne (hs)] at h;simp at h ⊢;exact .inr (by simpa using ih h)
theorem lk_sel {α:Type} (l:List (Nat×α)) : ∀(ks:List Nat) (K:Nat) (v:α),lk (sel ks l) K=some v→lk l K=some v∧K∈ks
 | [],_,_,h=>by simp [sel,lk] at h
 | t::r,K,v,h=>by
   simp only [sel] at h
   cases ht:lk l t with
   | none=>rw [ht] at h;have:=lk_sel l r K v h;exact ⟨this.1,by simp [this.2]⟩
   | some u=>
     rw [ht] at h
     simp only [lk] at h
     by_cases hs:t=K
     · subst hs;simp at h;subst h;exact ⟨ht,by simp⟩
     · rw [beq_ne (hs)] at h
       have:=lk_sel l r K v (by simpa using h);exact ⟨this.1,by simp [this.2]⟩
theorem lk_sel_mem {α:Type} (l:List (Nat×α)) : ∀(ks:List Nat) (K:Nat),K∈ks→lk (sel ks l) K=lk l K
 | [],_,h=>by simp at h
 | t::r,K,h=>by
   simp only [sel]
   by_cases hs:t=K
   · subst hs
     cases ht:lk l t with
     | none=>
       simp only
       by_cases hr:t∈r
       · rw [lk_sel_mem l r t hr,ht]
       · cases hx:lk (sel r l) t with
         | none=>rfl
         | some v=>exact absurd (lk_sel l r t v hx).2 hr
     | some u=>simp [lk]
   · have hr:K∈r:=by simpa [Ne.symm hs] using h
     cases ht:lk l t with
     | none=>exact lk_sel_mem l r K hr
     | some u=>simp only [lk];rw [beq_ne (hs)];simpa using lk_sel_mem l r K hr
mutual
theorem asRo_ok {w:World} {fz fz':Nat→Prop} (hf : ∀b,fz b→fz' b) : ∀(x:AVal) (c:List Value) (f:Foot),OwC w fz NoE x c f→(∀b,0<f b→fz' b)→ROC w fz' (asRo x) c
 | .und,c,f,h,_=>by simp only [OwC] at h;simp only [asRo,ROC];exact h.1
 | .bool _,c,f,h,_=>by simp only [OwC] at h;simp only [asRo,ROC];exact h.1
 | .int _ _,c,f,h,_=>by simp only [OwC] at h;simp only [asRo,ROC];exact h.1
 | .str _,c,f,h,_=>by simp only [OwC] at h;simp only [asRo,ROC];exact h.1
 | .nilp,c,f,h,_=>by simp only [OwC] at h;simp only [asRo,ROC];exact h.1
 | .unk,c,f,h,_=>by simp only [OwC] at h;simp only [asRo,ROC];exact h.1
 | .nils _,c,f,h,_=>by simp only [OwC] at h;simp only [asRo,ROC];exact h.1
 | .mp _ _,c,f,h,_=>by simp only [OwC] at h;simp only [asRo,ROC];exact h.one
 | .rop _ _,c,f,h,_=>by simp [OwC] at h
 | .tup _,c,f,h,_=>by simp [OwC] at h
 | .ptr _ _ _,c,f,h,_=>by simp [OwC,NoE] at h
 | .ref _ _,c,f,h,_=>by simp [OwC,NoE] at h
 | .clo _ _,c,f,h,_=>by simp [OwC,NoE] at h
 | .ro t sz xs,c,f,h,_=>by
   simp only [OwC] at h;simp only [asRo]
   exact ROC.mono (fun _ _=>rfl) hf _ _ h.1
 | .agg cs,c,f,h,hs=>by simp only [OwC] at h;simp only [asRo,ROC];exact asRoL_ok hf cs c f h hs
 | .own sz xs,c,f,h,hs=>by
   simp only [OwC] at h
   obtain ⟨a,cap,rfl,hl,h⟩:=h
   simp only [asRo,ROC]
   refine ⟨a,cap,by rw [asRoL_length],by rw [asRoL_length];exact hl,by simp,fun hne => ?_⟩
   have hx:xs≠[]:=by rintro rfl;simp [asRoL] at hne
   have hlen:0<xs.length:=by cases xs <;> simp at hx ⊢
   have hn : ¬(cap=0 ∧ ∀b,f b=0):=by rintro ⟨h0,_⟩;omega
   obtain ⟨hz,g,off,cs,f',rfl,hB,hle,hX,hff⟩:=h.resolve_left hn
   exact ⟨hz,g,off,cs,rfl,hs g (by rw [hff];simp),hB.r,asRoX_ok hf xs sz _ f' hX (fun b hb=>hs b (by rw [hff];omega))⟩
theorem asRoL_ok {w:World} {fz fz':Nat→Prop} (hf : ∀b,fz b→fz' b) : ∀(xs:List AVal) (c:List Value) (f:Foot),OwL w fz NoE xs c f→(∀b,0<f b→fz' b)→ROL w fz' (asRoL xs) c
 | [],c,f,h,_=>by simp only [OwL] at h;simp only [asRoL,ROL];exact h.1
 | x::xs,c,f,h,hs=>by
   simp only [OwL] at h
   obtain ⟨v,r,f1,f2,hc,h1,h2,hff⟩:=h
   simp only [asRoL,ROL]
   exact ⟨v,r,hc,asRo_ok hf x _ f1 h1 (fun b hb=>hs b (by rw [hff];omega)),asRoL_ok hf xs _ f2 h2 (fun b hb=>hs b (by rw [hff];omega))⟩
theorem asRoX_ok {w:World} {fz fz':Nat→Prop} (hf : ∀b,fz b→fz' b) : ∀(xs:List AVal) (sz:Nat) (c:List Value) (f:Foot),OwX w fz NoE xs sz c f→(∀b,0<f b→fz' b)→ROX w fz' (asRoL xs) sz c
 | [],_,_,_,_,_=>by simp [asRoL,ROX]
 | x::xs,sz,c,f,h,hs=>by
   simp only [OwX] at h
   obtain ⟨c1,c2,f1,f2,hc,hl,h1,h2,hff⟩:=h
   simp only [asRoL,ROX]
   exact ⟨c1,c2,hc,hl,asRo_ok hf x _ f1 h1 (fun b hb=>hs b (by rw [hff];omega)),asRoX_ok hf xs sz _ f2 h2 (fun b hb=>hs b (by rw [hff];omega))⟩
theorem asRoL_length : ∀(xs:List AVal),(asRoL xs).length=xs.length
 | []=>rfl
 | x::xs=>by simp [asRoL,asRoL_length xs]
end
theorem hdOf_same {w w':World} {l:Loc} (h : ∀b o,l=.mem b o→w'.heap[b]? = w.heap[b]?):hdOf w' l=hdOf w l:=by
 cases l with
 | val v=>rfl
 | mem b o=>simp only [hdOf,World.cell?];rw [h b o rfl]
theorem walk_same {w w':World} {fz:Nat→Prop} : ∀(p:List Nat) (E:Env2) (x:AVal) (c:List Value) (f:Foot) (l:Loc),RdC w fz E x c f→LocAt w l c→(aggQ x=true → ∃b o,l=.mem b o)→(∀b,0<f b∨fz b→w'.heap[b]? = w.heap[b]?)→(∀b o,l=.mem b o→w'.heap[b]? = w.heap[b]?) →
 walk w' x l p=walk w x l p ∧ ∀l',walk w x l p=some l'→hdOf w' l'=hdOf w l'
 | [],E,x,c,f,l,h,hl,hag,hs,hsl=>by
   rw [walk_nil,walk_nil];exact ⟨rfl,fun l' he=>by obtain rfl:=Option.some.inj he;exact hdOf_same hsl⟩
 | i::p,E,x,c,f,l,h,hl,hag,hs,hsl=>by
   cases x with
   | agg cs=>
     obtain ⟨b,o,rfl⟩:=hag rfl
     simp only [walk]
     by_cases hi:i<cs.length
     · rw [if_pos hi,if_pos hi]
       have : ∃v,c[i]? = some v∧RdC w fz E (cs.getD i .und) [v] f:=by
        rcases h with ⟨f1,hf1,h⟩|h
        · simp only [OwC] at h
          obtain ⟨v,g1,g2,hv,hx,hg,_⟩:=OwL.at i h hi
          exact ⟨v,hv,.inl ⟨g1,fun b=>by have:=hf1 b;have:=hg b;omega,hx⟩⟩
        · simp only [ROC] at h
          obtain ⟨v,hv,hx⟩:=ROL.at i h hi
          exact ⟨v,hv,.inr hx⟩
       obtain ⟨v,hv,hx⟩:=this
       exact walk_same p E _ _ f _ hx (hl.cellAt hv) (fun _=>⟨_,_,rfl⟩) hs (fun b' o' he=>by simp at he;rw [←he.1];exact hsl b o rfl)
     · rw [if_neg hi,if_neg hi];simp
   | own sz xs=>
     simp only [walk]
     by_cases hi:i<xs.length
     · rw [if_pos hi,if_pos hi]
       rcases h with ⟨f1,hf1,h⟩|h
       · simp only [OwC] at h
         obtain ⟨a,cap,rfl,hlen,h⟩:=h
         have hne : ¬(cap=0 ∧ ∀b,f1 b=0):=by rintro ⟨h0,_⟩;omega
         obtain ⟨hz,g,off,cs,f',rfl,hB,hle,hX,hff⟩:=h.resolve_left hne
         obtain ⟨d,g1,g2,rfl,hdl,hx,hg,_⟩:=OwX.at i hX hi
         have hsz:off+i*sz+sz≤cs.size:=by
          have:(i+1)*sz≤cap*sz:=Nat.mul_le_mul_right _ (by omega)
          rw [Nat.add_mul] at this;omega
         rw [hdOf_same hsl,hl.hd]
         refine walk_same p NoE _ _ f (.mem g (off+i*sz)) (.inl ⟨g1,fun b=>by have:=hf1 b;have:=hff b;have:=hg b;omega,hx⟩) (LocAt.seg hB.r hsz) (fun _=>⟨_,_,rfl⟩) hs (fun b' o' he => ?_)
         simp at he;rw [←he.1];exact hs g (.inl (by have:=hf1 g;have:=hff g;simp at this;omega))
       · simp [ROC] at h
     · rw [if_neg hi,if_neg hi];simp
   | ro t sz xs=>
     simp only [walk]
     by_cases hi:i<xs.length
     · rw [if_pos hi,if_pos hi]
       have h:ROC w fz (.ro t sz xs) c:=by
        rcases h with ⟨f1,hf1,h⟩|h
        · simp only [OwC] at h;exact h.1
        · exact h
       simp only [ROC] at h
       obtain ⟨a,cap,rfl,hlen,_,hx⟩:=h
       have hxn:xs≠[]:=by rintro rfl;simp at hi
       obtain ⟨hz,g,off,cs,rfl,hg,hB,hX⟩:=hx hxn
       obtain ⟨hdl,hxx⟩:=ROX.at i hX hi
       have hsz:off+i*sz+sz≤cs.size:=by simp at hdl;omega
       rw [hdOf_same hsl,hl.hd]
       refine walk_same p NoE _ _ f (.mem g (off+i*sz)) (.inr hxx) (LocAt.seg hB hsz) (fun _=>⟨_,_,rfl⟩) hs (fun b' o' he => ?_)
       simp at he;rw [←he.1];exact hs g (.inr hg)
     · rw [if_neg hi,if_neg hi];simp
   | _=>simp [walk]
end Go.VK
namespace Go.VK
open AVal
structure RelO (w:World) (fz al:Nat→Prop) (E:Env2) (O:OM) (R:RM) (F:Nat→Foot) (G:Foot):Prop where
 obj : ∀K o,O K=some o→OwO w fz E o (R K) (F K)
 one : ∀K o,O K=some o → ∀b,F K b≤1
 dis : ∀K o J u,K≠J→O K=some o→O J=some u → ∀b,F K b=0∨F J b=0
 own : ∀K o,O K=some o → ∀b,0<F K b→al b ∧ ¬fz b
 g1 : ∀b,G b≤1
 gd : ∀K o,O K=some o → ∀b,F K b=0∨G b=0
 go : ∀b,0<G b→al b ∧ ¬fz b
 lt : ∀b,fz b→b<w.heap.size
def upO (O:OM) (K:Nat) (o:Option VObj):OM:=fun J=>if J=K then o else O J
def upF (F:Nat→Foot) (K:Nat) (f:Foot):Nat→Foot:=fun J=>if J=K then f else F J
inductive Holes:AVal→AVal→Prop
 | refl (c:AVal):Holes c c
 | put {c d:AVal} (h:Holes c d) (p:List Nat):Holes c (d.put p .und)
theorem getD_set_same {xs:List AVal} {i:Nat} {y:AVal} (h:i<xs.length):(xs.set i y).getD i .und=y:=by simp [h]
theorem getD_set_ne {xs:List AVal} {i j:Nat} {y:AVal} (h:i≠j):(xs.set i y).getD j .und=xs.getD j .und:=by
 simp [h]
theorem set_out {xs:List AVal} {i:Nat} {y:AVal} (h : ¬i<xs.length):xs.set i y=xs:=List.set_eq_of_length_le (by omega)
theorem walk_put {w:World} : ∀(p q:List Nat) (x:AVal) (l:Loc),(x.put p .und).okp q=true→walk w (x.put p .und) l q=walk w x l q
 | [],q,x,l,h=>by
   cases q with
   | nil=>rw [walk_nil,walk_nil]
   | cons i q=>cases x <;> simp [AVal.put,AVal.okp] at h
 | i::p,[],x,l,_=>by rw [walk_nil,walk_nil]
 | i::p,j::q,x,l,h=>by
   cases x with
   | agg cs=>
     simp only [AVal.put,AVal.okp,Bool.and_eq_true,Nat.blt_eq,List.length_set] at h
     cases l with
     | val v=>simp [AVal.put,walk]
     | mem b o=>
       simp only [AVal.put,walk,List.length_set]
       rw [if_pos h.1,if_pos h.1]
       by_cases hij:i=j
       · subst hij;rw [getD_set_same h.1] at h ⊢;exact walk_put p q _ _ h.2
       · rw [getD_set_ne hij]
   | own sz xs=>
     simp only [AVal.put,AVal.okp,Bool.and_eq_true,Nat.blt_eq,List.length_set] at h
     simp only [AVal.put,walk,List.length_set]
     rw [if_pos h.1,if_pos h.1]
     by_cases hij:i=j
     · subst hij;rw [getD_set_same h.1] at h ⊢
       cases hdOf w l with
       | none=>rfl
       | some v=>cases v <;> try rfl
                 rename_i a n m;cases a <;> try rfl
                 exact walk_put p q _ _ h.2
     · rw [getD_set_ne hij]
   | tup vs=>simp [AVal.put,walk]
   | _=>simp [AVal.put]
theorem okp_put : ∀(p q:List Nat) (x:AVal),(x.put p .und).okp q=true→x.okp q=true
 | [],q,x,h=>by
   cases q with
   | nil=>cases x <;> simp [AVal.okp]
   | cons i q=>cases x <;> simp [AVal.put,AVal.okp] at h
 | i::p,[],x,_=>by cases x <;> simp [AVal.okp]
 | i::p,j::q,x,h=>by
   cases x with
   | agg cs=>
     simp only [AVal.put,AVal.okp,Bool.and_eq_true,Nat.blt_eq,List.length_set] at h ⊢
     refine ⟨h.1,?_⟩
     by_cases hij:i=j
     · subst hij;rw [getD_set_same h.1] at h;exact okp_put p q _ h.2
     · rw [getD_set_ne hij] at h;exact h.2
   | own sz xs=>
     simp only [AVal.put,AVal.okp,Bool.and_eq_true,Nat.blt_eq,List.length_set] at h ⊢
     refine ⟨h.1,?_⟩
     by_cases hij:i=j
     · subst hij;rw [getD_set_same h.1] at h;exact okp_put p q _ h.2
     · rw [getD_set_ne hij] at h;exact h.2
   | tup vs=>
     simp only [AVal.put,AVal.okp,Bool.and_eq_true,Nat.blt_eq,List.length_set] at h ⊢
     refine ⟨h.1,?_⟩
     by_cases hij:i=j
     · subst hij;rw [getD_set_same h.1] at h;exact okp_put p q _ h.2
     · rw [getD_set_ne hij] at h;exact h.2
   | _=>simpa [AVal.put] using h
theorem Holes.walk {w:World} {c d:AVal} (h:Holes c d) : ∀(q:List Nat) (l:Loc),d.okp q=true→walk w d l q=VK.walk w c l q:=by
 induction h with
 | refl=>intros;rfl
 | put h p ih=>intro q l hq;rw [walk_put p q _ l hq];exact ih q l (okp_put p q _ hq)
theorem RelO.lose {w:World} {fz al:Nat→Prop} {E:Env2} {O:OM} {R:RM} {F:Nat→Foot} {G G':Foot} (h:RelO w fz al E O R F G) (hg : ∀b,G' b≤G b):RelO w fz al E O R F G':=
 ⟨h.obj,h.one,h.dis,h.own,fun b=>Nat.le_trans (hg b) (h.g1 b),fun K o ho b=>(h.gd K o ho b).imp id (fun h0=>by have:=hg b;omega),fun b hb=>h.go b (Nat.lt_of_lt_of_le hb (hg b)),h.lt⟩
theorem RelO.grab {w:World} {fz al:Nat→Prop} {E:Env2} {O:OM} {R:RM} {F:Nat→Foot} {G:Foot} (h:RelO w fz al E O R F G) {K:Nat} {o:VObj} (ho:O K=some o) :
 RelO w fz al E (upO O K none) R F (fun b=>G b+F K b):=by
 refine ⟨?_,?_,?_,?_,?_,?_,?_,h.lt⟩
 · intro J u hu;simp only [upO] at hu;split at hu
   · simp at hu
   · exact h.obj J u hu
 · intro J u hu;simp only [upO] at hu;split at hu
   · simp at hu
   · exact h.one J u hu
 · intro J u I v hne hu hv;simp only [upO] at hu hv;split at hu
   · simp at hu
   · split at hv
     · simp at hv
     · exact h.dis J u I v hne hu hv
 · intro J u hu;simp only [upO] at hu;split at hu
   · simp at hu
   · exact h.own J u hu
 · intro b;have:=h.g1 b;have h1:=h.one K o ho b;have:=h.gd K o ho b;omega
 · intro J u hu b;simp only [upO] at hu;split at hu
   · simp at hu
   · rename_i hne
     have h1:=h.gd J u hu b;have h2:=h.dis J u K o hne hu ho b;omega
 · intro b hb
   by_cases h0:0<G b
   · exact h.go b h0
   · exact h.own K o ho b (by omega)
theorem RelO.dig {w:World} {fz al:Nat→Prop} {E:Env2} {O:OM} {R:RM} {F:Nat→Foot} {G:Foot} (h:RelO w fz al E O R F G) {K:Nat} {o:VObj} (ho:O K=some o) {p:List Nat} (hp:o.c.okp p=true) :
 ∃(c1:List Value) (g:Foot) (l1:Loc) (F1:Nat→Foot),VK.walk w o.c (R K) p=some l1∧LocAt w l1 c1∧(p≠[] → ∃b q,l1=.mem b q)∧OwC w fz (deepE E o.c p) (o.c.get p) c1 g∧(∀J,J≠K→F1 J=F J)∧(∀b,F K b=F1 K b+g b) ∧
  ∀y,OwC w fz (deepE E o.c p) y c1 zf→(o.box=false→aggQ (o.c.put p y)=false)→RelO w fz al E (upO O K (some { o with c:=o.c.put p y })) R F1 (fun b=>G b+g b):=by
 have hobj:=h.obj K o ho
 have key : ∃(c:List Value) (f0:Foot),OwC w fz E o.c c f0∧LocAt w (R K) c∧(aggQ o.c=true → ∃b q,R K=.mem b q)∧(∀b,f0 b≤F K b) ∧
  (∀y f,OwC w fz E y c f→(o.box=false→aggQ y=false)→OwO w fz E { o with c:=y } (R K) (fun b=>f b+(F K b-f0 b))):=by
  unfold OwO at hobj
  split at hobj
  · rename_i hb
    obtain ⟨b,cs,f',hl,hB,hc,hf⟩:=hobj
    refine ⟨cs.toList,f',hc,?_,fun _=>⟨_,_,hl⟩,fun b=>by rw [hf];omega,fun y f hy _ => ?_⟩
    · rw [hl];exact ⟨cs,hB.r,by simp,by simp [List.take_of_length_le]⟩
    · unfold OwO;rw [if_pos hb]
      exact ⟨b,cs,f,hl,hB,hy,fun i=>by dsimp only;rw [hf];omega⟩
  · rename_i hb
    obtain ⟨v,hl,hc,ha⟩:=hobj
    refine ⟨[v],F K,hc,by rw [hl];rfl,fun h0=>by rw [ha] at h0;simp at h0,fun b=>Nat.le_refl _,fun y f hy hy2 => ?_⟩
    unfold OwO;rw [if_neg hb]
    have:(fun b=>f b+(F K b-F K b))=f:=by funext b;omega
    rw [this]
    exact ⟨v,hl,hy,hy2 (by simpa using hb)⟩
 obtain ⟨c,f0,hc,hl,hag,hle,hback⟩:=key
 obtain ⟨c1,g,f2,l1,hw,hl1,hm,hg,hff,hk⟩:=split p E o.c c f0 (R K) hc hl hag hp
 refine ⟨c1,g,l1,upF F K (fun b=>F K b-g b),hw,hl1,hm,hg,fun J hJ=>by simp [upF,hJ],fun b=>by simp [upF];have:=hff b;have:=hle b;omega,?_⟩
 intro y hy hya
 have hF1 : ∀b,upF F K (fun b=>F K b-g b) K b=F K b-g b:=fun b=>by simp [upF]
 have hgle : ∀b,g b≤F K b:=fun b=>by have:=hff b;have:=hle b;omega
 refine ⟨?_,?_,?_,?_,?_,?_,?_,h.lt⟩
 · intro J u hu;simp only [upO] at hu;split at hu
   · rename_i hJ;subst hJ
     obtain rfl:=Option.some.inj hu
     have h3:=hback _ _ (hk y zf hy) (fun hb=>hya hb)
     have e:(fun b=>(fun b=>zf b+f2 b) b+(F J b-f0 b))=upF F J (fun b=>F J b-g b) J:=by
      funext b;rw [hF1];have:=hff b;have:=hle b;simp [zf];omega
     rw [e] at h3;exact h3
   · rename_i hJ
     simp only [upF,if_neg hJ];exact h.obj J u hu
 · intro J u hu b;simp only [upO] at hu;split at hu
   · rename_i hJ;subst hJ;rw [hF1];have:=h.one _ _ ho b;omega
   · rename_i hJ;simp only [upF,if_neg hJ];exact h.one J u hu b
 · intro J u I v hne hu hv b;simp only [upO] at hu hv
   split at hu
   · rename_i hJ;subst hJ
     rw [if_neg (Ne.symm hne)] at hv
     rw [hF1];simp only [upF,if_neg (Ne.symm hne)]
     have:=h.dis _ _ _ _ hne ho hv b;omega
   · rename_i hJ
     split at hv
     · rename_i hI;subst hI
       rw [hF1];simp only [upF,if_neg hJ]
       have:=h.dis _ _ _ _ hne hu ho b;omega
     · rename_i hI
       simp only [upF,if_neg hJ,if_neg hI];exact h.dis _ _ _ _ hne hu hv b
 · intro J u hu b hb;simp only [upO] at hu;split at hu
   · rename_i hJ;subst hJ;rw [hF1] at hb;exact h.own _ _ ho b (by omega)
   · rename_i hJ;simp only [upF,if_neg hJ] at hb;exact h.own J u hu b hb
 · intro b;have:=h.g1 b;have:=h.gd _ _ ho b;have:=h.one _ _ ho b;have:=hgle b;omega
 · intro J u hu b;simp only [upO] at hu;split at hu
   · rename_i hJ;subst hJ;rw [hF1];have:=h.gd _ _ ho b;have:=h.one _ _ ho b;have:=hgle b;omega
   · rename_i hJ;simp only [upF,if_neg hJ]
     have:=h.gd J u hu b;have:=h.dis _ _ _ _ hJ hu ho b;have:=hgle b;omega
 · intro b hb
   by_cases h0:0<G b
   · exact h.go b h0
   · exact h.own K o ho b (by have:=hgle b;omega)
end Go.VK
namespace Go.VK
open AVal
def HandV (w:World) (fz:Nat→Prop) (E:Env2) (v:AVal) (val:Value) (g:Foot):Prop:=
 match v with
 | .agg cs => ∃vs:Array Value,val=.agg vs∧OwL w fz E cs vs.toList g
 | v=>OwC w fz E v [val] g
def HandL (w:World) (fz:Nat→Prop) (E:Env2):List AVal→List Value→Foot→Prop
 | [],c,g=>c=[] ∧ ∀b,g b=0
 | v::vs,c,g => ∃val r g1 g2,c=val::r∧HandV w fz E v val g1∧HandL w fz E vs r g2 ∧ ∀b,g b=g1 b+g2 b
def HandR (w:World) (fz:Nat→Prop) (E:Env2) (v:AVal) (val:Value) (g:Foot):Prop:=
 match v with
 | .tup cs=>(match cs with
   | [c] => ∃b ks f',val=.pointer (some ⟨b,0,none⟩)∧Blk w b ks∧OwC w fz E c ks.toList f' ∧ ∀i,g i=f' i+if i=b then 1 else 0
   | _=>False)
 | v=>HandV w fz E v val g
def HandRL (w:World) (fz:Nat→Prop) (E:Env2):List AVal→List Value→Foot→Prop
 | [],c,g=>c=[] ∧ ∀b,g b=0
 | v::vs,c,g => ∃val r g1 g2,c=val::r∧HandR w fz E v val g1∧HandRL w fz E vs r g2 ∧ ∀b,g b=g1 b+g2 b
theorem HandV.toR {w:World} {fz:Nat→Prop} {E:Env2} {v:AVal} {val:Value} {g:Foot} (h:HandV w fz E v val g):HandR w fz E v val g:=by
 cases v with
 | tup cs=>exact absurd (show OwC w fz E (.tup cs) [val] g from h) (by simp only [OwC];exact id)
 | _=>exact h
theorem HandR.toV {w:World} {fz:Nat→Prop} {E:Env2} {v:AVal} {val:Value} {g:Foot} (hn : ∀cs,v≠.tup cs) (h:HandR w fz E v val g):HandV w fz E v val g:=by
 cases v with
 | tup cs=>exact absurd rfl (hn cs)
 | _=>exact h
theorem HandL.toR {w:World} {fz:Nat→Prop} {E:Env2} : ∀{vs:List AVal} {c:List Value} {g:Foot},HandL w fz E vs c g→HandRL w fz E vs c g
 | [],_,_,h=>h
 | v::vs,c,g,h=>by
   simp only [HandL] at h
   simp only [HandRL]
   obtain ⟨val,r,g1,g2,h0,h1,h2,h3⟩:=h
   exact ⟨val,r,g1,g2,h0,h1.toR,h2.toR,h3⟩
theorem HandL.cells {w:World} {fz:Nat→Prop} {E:Env2} : ∀{vs:List AVal} {c:List Value} {g:Foot},HandL w fz E vs c g→noAgg vs=true→OwL w fz E vs c g
 | [],_,_,h,_=>by simpa [HandL,OwL] using h
 | v::vs,c,g,h,ha=>by
   simp only [HandL] at h
   simp only [noAgg,Bool.and_eq_true,Bool.not_eq_true'] at ha
   obtain ⟨val,r,g1,g2,hc,h1,h2,hg⟩:=h
   simp only [OwL]
   refine ⟨val,r,g1,g2,hc,?_,h2.cells ha.2,hg⟩
   cases v <;> first|exact h1|simp [aggQ] at ha
def Amb (M:List Nat) (O0:OM) (s:St):OM:=fun K=>if K∈M then lk s.objs K else O0 K
def Kept (ki:List (Nat×List Nat)) (K:Nat) (c c':AVal):Prop := ∀(w:World) (l:Loc) (p:List Nat),(∀y∈ki,y.1=K→hitP y.2 p=false)→walk w c' l p=walk w c l p
theorem Kept.refl (ki:List (Nat×List Nat)) (K:Nat) (c:AVal):Kept ki K c c:=fun _ _ _ _=>rfl
theorem Kept.cons {ki:List (Nat×List Nat)} {K:Nat} {c c':AVal} (h:Kept ki K c c') (y:Nat×List Nat):Kept (y::ki) K c c':=fun w l p hn=>h w l p fun z hz=>hn z (List.mem_cons_of_mem _ hz)
theorem Kept.all {ki:List (Nat×List Nat)} {K:Nat} {c c':AVal} (h:(K,[])∈ki):Kept ki K c c':=fun w l p hn=>by
 have:=hn _ h rfl
 cases p <;> simp [hitP] at this
theorem pre_len : ∀(p q:List Nat),pre p q=true→p.length≤q.length
 | [],q,_=>Nat.zero_le _
 | i::p,[],h=>by simp [pre] at h
 | i::p,j::q,h=>by
   simp only [pre,Bool.and_eq_true] at h
   have:=pre_len p q h.2
   simp only [List.length_cons];omega
theorem pre_hit {p q:List Nat} (h:hitP p q=false):pre p q=false:=by
 cases hp:pre p q with
 | false=>rfl
 | true=>
   cases p with
   | nil=>cases q <;> simp [hitP] at h
   | cons i p=>
     cases q with
     | nil=>simp [pre] at hp
     | cons j q=>
       simp only [pre,Bool.and_eq_true] at hp
       have:=pre_len p q hp.2
       have hb:Nat.ble p.length q.length=true:=by rw [Nat.ble_eq];exact this
       simp only [hitP,hp.1,hb,Bool.and_self] at h
       cases h
theorem walk_put_pre (w:World) : ∀(q r:List Nat) (x y:AVal) (l:Loc),pre q r=false→walk w (x.put q y) l r=walk w x l r
 | [],r,x,y,l,h=>by cases r <;> simp [pre] at h
 | i::q,[],x,y,l,h=>by cases x <;> cases l <;> simp [walk]
 | i::q,j::r,x,y,l,h=>by
   have key : ∀(cs:List AVal) (l:Loc),walk w ((cs.set i ((cs.getD i .und).put q y)).getD j .und) l r=walk w (cs.getD j .und) l r:=by
    intro cs l
    by_cases hij:i=j
    · subst hij
      have hp:pre q r=false:=by simpa [pre] using h
      by_cases hi:i<cs.length
      · rw [show (cs.set i ((cs.getD i .und).put q y)).getD i .und=(cs.getD i .und).put q y by simp [List.getD_eq_getElem?_getD,hi]]
        exact walk_put_pre w q r _ y l hp
      · rw [List.set_eq_of_length_le (by omega)]
    · rw [show (cs.set i ((cs.getD i .und).put q y)).getD j .und=cs.getD j .und by simp [List.getD_eq_getElem?_getD,List.getElem?_set_ne hij]]
   cases x with
   | agg cs=>cases l <;> simp only [AVal.put,walk,List.length_set,key]
   | own sz xs=>simp only [AVal.put,walk,List.length_set,key]
   | tup vs=>simp [AVal.put,walk]
   | _=>rfl
theorem Kept.dig {ki:List (Nat×List Nat)} {K:Nat} {c c':AVal} (h:Kept ki K c c') (p:List Nat) (y:AVal):Kept ((K,p)::ki) K c (c'.put p y):=fun w l q hn=>by
 rw [walk_put_pre w p q c' y l (pre_hit (hn _ (List.mem_cons_self ..) rfl))]
 exact h w l q fun z hz=>hn z (List.mem_cons_of_mem _ hz)
theorem Kept.digB {ki:List (Nat×List Nat)} {K:Nat} {c c':AVal} (h:Kept ki K c c') (b:Bool) (p:List Nat) (y:AVal):Kept ((K,bif b then p else [])::ki) K c (c'.put p y):=by
 cases b with
 | true=>exact h.dig p y
 | false=>exact .all (List.mem_cons_self ..)
structure Mid (M:List Nat) (O0:OM) (s:St):Prop where
 old : ∀K o,lk s.objs K=some o → ∃u,O0 K=some u∧o.box=u.box∧Holes u.c o.c∧Kept s.ki K u.c o.c
 there : ∀K u,K∈M→O0 K=some u→K∉s.ka → ∃o,lk s.objs K=some o
 seen : ∀K o,lk s.objs K=some o→K∈M
theorem deepE_keep (E:Env2) : ∀(x:AVal) (p:List Nat),keepE (fun _=>false) (deepE E x p) E
 | x,[]=>by cases x <;> exact fun _ _ _ h=>h
 | x,i::p=>by
   cases x with
   | agg cs=>exact deepE_keep E _ p
   | own sz xs=>exact fun _ _ _ h=>h.elim
   | _=>exact fun _ _ _ h=>h
theorem OwC.toE {w:World} {fz:Nat→Prop} {E:Env2} {x:AVal} {p:List Nat} {y:AVal} {c:List Value} {f:Foot} (h:OwC w fz (deepE E x p) y c f):OwC w fz E y c f:=
 OwC.mono (fun _b hb=>⟨hb,rfl⟩) y _ _ (deepE_keep E x p) c f (fun _ _=>rfl) h
theorem OwC.single {w:World} {fz:Nat→Prop} {E:Env2} {x:AVal} {c:List Value} {f:Foot} (h:OwC w fz E x c f) (ha:aggQ x=false) : ∃v,c=[v]:=by
 cases x <;> simp only [OwC,ROC,aggQ] at h ha <;> first
  | exact h.1
  | (obtain ⟨⟨v,hc,_⟩,_⟩:=h;exact ⟨v,hc⟩)
  | (obtain ⟨a,cap,hc,_⟩:=h;exact ⟨_,hc⟩)
  | (obtain ⟨⟨a,cap,hc,_⟩,_⟩:=h;exact ⟨_,hc⟩)
  | exact ⟨_,h.1⟩
  | exact h.elim
  | exact ⟨(MpC.one h).choose,(MpC.one h).choose_spec.1⟩
  | simp at ha
theorem HandV.one {w:World} {fz:Nat→Prop} {E:Env2} {v:AVal} {val:Value} {g:Foot} (ha:aggQ v=false) (h:OwC w fz E v [val] g):HandV w fz E v val g:=by
 cases v <;> first|exact h|simp [aggQ] at ha
theorem amb_drop (M:List Nat) (O0:OM) (s:St) {K:Nat} (hK:K∈M):Amb M O0 (s.drop K)=upO (Amb M O0 s) K none:=by
 funext J;simp only [Amb,upO,St.drop,lk_del]
 by_cases h:J=K
 · subst h;simp [hK]
 · simp [h]
theorem amb_set (M:List Nat) (O0:OM) (s:St) {K:Nat} (hK:K∈M) (o:VObj):Amb M O0 (s.setObj K o)=upO (Amb M O0 s) K (some o):=by
 funext J;simp only [Amb,upO,St.setObj,lk_ins]
 by_cases h:J=K
 · subst h;simp [hK]
 · simp [h]
section take
variable {w:World} {fz al:Nat→Prop} {O0:OM} {R:RM} {M:List Nat}
def TakeOK (w:World) (fz al:Nat→Prop) (O0:OM) (R:RM) (M:List Nat) (s s1:St) (F:Nat→Foot) (G:Foot) (H:Foot→Prop):Prop:=
 ∃(F1:Nat→Foot) (g:Foot),RelO w fz al (EvR w O0 R) (Amb M O0 s1) R F1 (fun b=>G b+g b)∧H g∧Mid M O0 s1∧(∀K,K∉M→F1 K=F K)∧(∀K b,F1 K b≤F K b)∧s1.env=s.env∧s1.kr=s.kr
theorem TakeOK.keep {s:St} {F:Nat→Foot} {G:Foot} {H:Foot→Prop} (h:RelO w fz al (EvR w O0 R) (Amb M O0 s) R F G) (hm:Mid M O0 s) (hH:H zf):TakeOK w fz al O0 R M s s F G H:=
 ⟨F,zf,by simpa [zf] using h,hH,hm,fun _ _=>rfl,fun _ _=>Nat.le_refl _,rfl,rfl⟩
theorem dig_ok {K:Nat} {p:List Nat} {s:St} {v:AVal} {s1:St} {F:Nat→Foot} {G:Foot} {val:Value} (h:s.dig K p=some (v,s1)) (hKM:K∈M) (hv:EvV w fz O0 R (.ref K p) val) (hm:Mid M O0 s) (hr:RelO w fz al (EvR w O0 R) (Amb M O0 s) R F G) :
 TakeOK w fz al O0 R M s s1 F G (HandV w fz (EvR w O0 R) v val):=by
 simp only [EvV,EvR,EvP] at hv
 obtain ⟨u,l,hu,hwk,hhd,hv1⟩:=hv
 simp only [St.dig,St.obj] at h
 cases ho:lk s.objs K with
 | none=>rw [ho] at h;simp at h
 | some o=>
   rw [ho] at h
   obtain ⟨u',hu',hbox,hho,hki⟩:=hm.old K o ho
   rw [hu] at hu';obtain rfl:=Option.some.inj hu'
   have hA:Amb M O0 s K=some o:=by simp [Amb,hKM,ho]
   simp only at h
   cases hokp:(o.c.okp p && !(aggQ (o.c.get p))) with
   | false=>rw [hokp] at h;simp at h
   | true=>
     rw [hokp] at h;simp only [cond_true,Option.some.injEq,Prod.mk.injEq] at h
     obtain ⟨rfl,rfl⟩:=h
     simp only [Bool.and_eq_true,Bool.not_eq_true'] at hokp
     obtain ⟨c1,g,l1,F1,hw1,hl1,hm1,hg,hF,hFK,hk2⟩:=hr.dig hA hokp.1
     obtain ⟨v',rfl⟩:=OwC.single hg hokp.2
     have hl:l1=l:=by
      rw [hho.walk _ _ hokp.1,hwk] at hw1;exact (Option.some.inj hw1).symm
     subst hl
     have:v'=val:=by have:=hl1.hd;rw [hhd] at this;exact (Option.some.inj this).symm
     subst this
     have hr1:=hk2 .und (by simp only [OwC];exact ⟨⟨_,rfl,hv1⟩,fun _=>rfl⟩) (fun hb=>by
      have hob:=hr.obj K o hA
      unfold OwO at hob;rw [if_neg (by simp [hb])] at hob
      obtain ⟨_,_,_,ha⟩:=hob
      cases p with
      | nil=>rfl
      | cons i p=>cases hoc:o.c <;> rw [hoc] at ha <;> simp [AVal.put,aggQ] at ha ⊢)
     refine ⟨F1,g,?_,HandV.one hokp.2 hg.toE,?_,fun J hJ=>hF J (by rintro rfl;exact hJ hKM),fun J b => ?_,rfl,rfl⟩
     · rw [amb_set M O0 _ hKM];exact hr1
     · refine ⟨fun J t ht => ?_,fun J t hJ ht hn => ?_,fun J t ht => ?_⟩
       · simp only [St.setObj,St.killAt,lk_ins] at ht;split at ht
         · rename_i hJ;subst hJ
           obtain rfl:=Option.some.inj ht
           exact ⟨u,hu,hbox,.put hho _,hki.digB _ _ _⟩
         · obtain ⟨q,h1,h2,h3,h4⟩:=hm.old J t ht
           exact ⟨q,h1,h2,h3,h4.cons _⟩
       · simp only [St.setObj,St.killAt] at hn ⊢
         obtain ⟨q,hq⟩:=hm.there J t hJ ht hn
         simp only [lk_ins]
         by_cases hJK:J=K
         · exact ⟨_,by rw [if_pos hJK]⟩
         · exact ⟨q,by rw [if_neg hJK];exact hq⟩
       · simp only [St.setObj,St.killAt,lk_ins] at ht;split at ht
         · rename_i hJ;subst hJ;exact hKM
         · exact hm.seen J t ht
     · by_cases hJ:J=K
       · subst hJ;have:=hFK b;omega
       · rw [hF J hJ];exact Nat.le_refl _
mutual
theorem take_ok : ∀(x:AVal) (s:St) (v:AVal) (s1:St) (F:Nat→Foot) (G:Foot) (val:Value),s.take x=some (v,s1)→(∀K∈x.keys,K∈M)→EvV w fz O0 R x val→Mid M O0 s→RelO w fz al (EvR w O0 R) (Amb M O0 s) R F G →
 TakeOK w fz al O0 R M s s1 F G (HandV w fz (EvR w O0 R) v val)
 | .ref K p,s,v,s1,F,G,val,h,hk,hv,hm,hr=>by
   have hKM:K∈M:=hk K (by simp [AVal.keys])
   simp only [EvV,EvR,EvP] at hv
   simp only [St.take] at h
   by_cases hpb:Nat.ble passBase K=true
   · rw [hpb] at h;simp only [cond_true,Option.some.injEq,Prod.mk.injEq] at h
     obtain ⟨rfl,rfl⟩:=h
     refine TakeOK.keep hr hm ?_
     simp only [HandV,OwC]
     exact ⟨⟨val,rfl,by obtain ⟨_,_,_,_,_,h1⟩:=hv;exact h1,by simp only [EvR,EvP];exact hv⟩,fun _=>rfl⟩
   rw [Bool.eq_false_iff.2 hpb] at h
   simp only [cond_false,St.obj] at h
   obtain ⟨u,l,hu,hwk,hhd,hv1⟩:=hv
   cases ho:lk s.objs K with
   | none=>rw [ho] at h;cases p <;> simp at h
   | some o=>
     rw [ho] at h
     obtain ⟨u',hu',hbox,hho,hki⟩:=hm.old K o ho
     rw [hu] at hu';obtain rfl:=Option.some.inj hu'
     have hA:Amb M O0 s K=some o:=by simp [Amb,hKM,ho]
     cases p with
     | nil=>
       simp only at h
       cases hb:o.box with
       | true=>
          rw [hb] at h;simp only [cond_true] at h
          cases hokp:(o.c.okp [] && !(aggQ (o.c.get []))) with
          | false=>rw [hokp] at h;simp at h
          | true=>
            rw [hokp] at h;simp only [cond_true,Option.some.injEq,Prod.mk.injEq] at h
            obtain ⟨rfl,rfl⟩:=h
            simp only [Bool.and_eq_true,Bool.not_eq_true'] at hokp
            obtain ⟨c1,g,l1,F1,hw1,hl1,hm1,hg,hF,hFK,hk2⟩:=hr.dig hA hokp.1
            obtain ⟨v',rfl⟩:=OwC.single hg hokp.2
            have hl:l1=l:=by
             rw [hho.walk _ _ hokp.1,hwk] at hw1;exact (Option.some.inj hw1).symm
            subst hl
            have:v'=val:=by have:=hl1.hd;rw [hhd] at this;exact (Option.some.inj this).symm
            subst this
            have hr1:=hk2 .und (by simp only [OwC];exact ⟨⟨_,rfl,hv1⟩,fun _=>rfl⟩) (fun hb=>by
             have hob:=hr.obj K o hA
             unfold OwO at hob;rw [if_neg (by simp [hb])] at hob
             obtain ⟨_,_,_,ha⟩:=hob
             cases hoc:o.c <;> rw [hoc] at ha <;> simp [AVal.put,aggQ] at ha ⊢)
            rw [hb] at hr1 hbox
            refine ⟨F1,g,?_,HandV.one hokp.2 hg.toE,?_,fun J hJ=>hF J (by rintro rfl;exact hJ hKM),fun J b => ?_,rfl,rfl⟩
            · rw [amb_set M O0 _ hKM];exact hr1
            · refine ⟨fun J t ht => ?_,fun J t hJ ht hn => ?_,fun J t ht => ?_⟩
              · simp only [St.setObj,St.killAt,lk_ins] at ht;split at ht
                · rename_i hJ;subst hJ
                  obtain rfl:=Option.some.inj ht
                  exact ⟨u,hu,hbox,.put hho _,hki.dig _ _⟩
                · obtain ⟨q,h1,h2,h3,h4⟩:=hm.old J t ht
                  exact ⟨q,h1,h2,h3,h4.cons _⟩
              · simp only [St.setObj,St.killAt] at hn ⊢
                obtain ⟨q,hq⟩:=hm.there J t hJ ht hn
                simp only [lk_ins]
                by_cases hJK:J=K
                · exact ⟨_,by rw [if_pos hJK]⟩
                · exact ⟨q,by rw [if_neg hJK];exact hq⟩
              · simp only [St.setObj,St.killAt,lk_ins] at ht;split at ht
                · rename_i hJ;subst hJ;exact hKM
                · exact hm.seen J t ht
            · by_cases hJ:J=K
              · subst hJ;have:=hFK b;omega
              · rw [hF J hJ];exact Nat.le_refl _
       | false=>
         rw [hb] at h;simp only [cond_false,Option.some.injEq,Prod.mk.injEq] at h
         obtain ⟨rfl,rfl⟩:=h
         rw [walk_nil] at hwk;obtain rfl:=Option.some.inj hwk
         have hob:=hr.obj K o hA
         unfold OwO at hob;rw [if_neg (by simp [hb])] at hob
         obtain ⟨v',hl,hc,ha⟩:=hob
         rw [hl] at hhd;simp only [hdOf,Option.some.injEq] at hhd;subst hhd
         refine ⟨F,F K,?_,HandV.one ha hc,?_,fun _ _=>rfl,fun _ _=>Nat.le_refl _,rfl,rfl⟩
         · rw [amb_drop M O0 s hKM];exact hr.grab hA
         · refine ⟨fun J t ht => ?_,fun J t hJ ht hn => ?_,fun J t ht => ?_⟩
           · simp only [St.drop,lk_del] at ht;split at ht
             · simp at ht
             · exact hm.old J t ht
           · simp only [St.drop,List.mem_cons,not_or] at hn
             obtain ⟨q,hq⟩:=hm.there J t hJ ht hn.2
             exact ⟨q,by simp only [St.drop,lk_del,if_neg hn.1];exact hq⟩
           · simp only [St.drop,lk_del] at ht;split at ht
             · simp at ht
             · exact hm.seen J t ht
     | cons i p=>
       simp only at h
       cases hokp:(o.c.okp (i::p) && !(aggQ (o.c.get (i::p)))) with
       | false=>rw [hokp] at h;simp at h
       | true=>
         rw [hokp] at h;simp only [cond_true,Option.some.injEq,Prod.mk.injEq] at h
         obtain ⟨rfl,rfl⟩:=h
         simp only [Bool.and_eq_true,Bool.not_eq_true'] at hokp
         obtain ⟨c1,g,l1,F1,hw1,hl1,hm1,hg,hF,hFK,hk2⟩:=hr.dig hA hokp.1
         obtain ⟨v',rfl⟩:=OwC.single hg hokp.2
         have hl:l1=l:=by
          rw [hho.walk _ _ hokp.1,hwk] at hw1;exact (Option.some.inj hw1).symm
         subst hl
         have:v'=val:=by have:=hl1.hd;rw [hhd] at this;exact (Option.some.inj this).symm
         subst this
         have hr1:=hk2 .und (by simp only [OwC];exact ⟨⟨_,rfl,hv1⟩,fun _=>rfl⟩) (fun hb=>by
          have hob:=hr.obj K o hA
          unfold OwO at hob;rw [if_neg (by simp [hb])] at hob
          obtain ⟨_,_,_,ha⟩:=hob
          cases hoc:o.c <;> rw [hoc] at ha <;> simp [AVal.put,aggQ] at ha ⊢)
         refine ⟨F1,g,?_,HandV.one hokp.2 hg.toE,?_,fun J hJ=>hF J (by rintro rfl;exact hJ hKM),fun J b => ?_,rfl,rfl⟩
         · rw [amb_set M O0 _ hKM];exact hr1
         · refine ⟨fun J t ht => ?_,fun J t hJ ht hn => ?_,fun J t ht => ?_⟩
           · simp only [St.setObj,St.killAt,lk_ins] at ht;split at ht
             · rename_i hJ;subst hJ
               obtain rfl:=Option.some.inj ht
               exact ⟨u,hu,hbox,.put hho _,hki.digB _ _ _⟩
             · obtain ⟨q,h1,h2,h3,h4⟩:=hm.old J t ht
               exact ⟨q,h1,h2,h3,h4.cons _⟩
           · simp only [St.setObj,St.killAt] at hn ⊢
             obtain ⟨q,hq⟩:=hm.there J t hJ ht hn
             simp only [lk_ins]
             by_cases hJK:J=K
             · exact ⟨_,by rw [if_pos hJK]⟩
             · exact ⟨q,by rw [if_neg hJK];exact hq⟩
           · simp only [St.setObj,St.killAt,lk_ins] at ht;split at ht
             · rename_i hJ;subst hJ;exact hKM
             · exact hm.seen J t ht
         · by_cases hJ:J=K
           · subst hJ;have:=hFK b;omega
           · rw [hF J hJ];exact Nat.le_refl _
 | .agg cs,s,v,s1,F,G,val,h,hk,hv,hm,hr=>by
   simp only [EvV] at hv
   obtain ⟨vs,rfl,hvs⟩:=hv
   simp only [St.take] at h
   cases ht:s.takeL cs with
   | none=>rw [ht] at h;simp at h
   | some r=>
     obtain ⟨us,s'⟩:=r
     rw [ht] at h;simp only at h
     cases hna:noAgg us with
     | false=>rw [hna] at h;simp at h
     | true=>
       rw [hna] at h;simp only [cond_true,Option.some.injEq,Prod.mk.injEq] at h
       obtain ⟨rfl,rfl⟩:=h
       obtain ⟨F1,g,h1,h2,h3⟩:=takeL_ok cs s us s' F G vs.toList ht (by simpa [AVal.keys] using hk) hvs hm hr
       exact ⟨F1,g,h1,⟨vs,rfl,h2.cells hna⟩,h3⟩
 | .ptr K p off,s,v,s1,F,G,val,h,_,hv,hm,hr=>by
   simp only [St.take,Option.some.injEq,Prod.mk.injEq] at h;obtain ⟨rfl,rfl⟩:=h
   simp only [EvV] at hv
   exact TakeOK.keep hr hm (by simp only [HandV,OwC];exact ⟨⟨val,rfl,by simp only [EvR,EvP] at hv;obtain ⟨_,_,_,_,_,rfl⟩:=hv;rfl,hv⟩,fun _=>rfl⟩)
 | .clo f cs,s,v,s1,F,G,val,h,_,hv,hm,hr=>by
   simp only [St.take,Option.some.injEq,Prod.mk.injEq] at h;obtain ⟨rfl,rfl⟩:=h
   simp only [EvV] at hv
   exact TakeOK.keep hr hm (by simp only [HandV,OwC];exact ⟨⟨val,rfl,by simp only [EvR] at hv;obtain ⟨_,rfl,_⟩:=hv;exact cloV_one _ _,hv⟩,fun _=>rfl⟩)
 | .nils sz,s,v,s1,F,G,val,h,_,hv,hm,hr=>by
   simp only [St.take,Option.some.injEq,Prod.mk.injEq] at h;obtain ⟨rfl,rfl⟩:=h
   simp only [EvV] at hv;subst hv
   exact TakeOK.keep hr hm (by simp only [HandV,OwC];exact ⟨none,0,by simp,by simp,.inl ⟨rfl,fun _=>rfl⟩⟩)
 | .bool _,s,v,s1,F,G,val,h,_,hv,hm,hr=>by
   simp only [St.take,Option.some.injEq,Prod.mk.injEq] at h;obtain ⟨rfl,rfl⟩:=h
   simp only [EvV] at hv;subst hv
   exact TakeOK.keep hr hm (by simp [HandV,OwC,zf])
 | .int _ _,s,v,s1,F,G,val,h,_,hv,hm,hr=>by
   simp only [St.take,Option.some.injEq,Prod.mk.injEq] at h;obtain ⟨rfl,rfl⟩:=h
   simp only [EvV] at hv;subst hv
   exact TakeOK.keep hr hm (by simp [HandV,OwC,zf])
 | .str _,s,v,s1,F,G,val,h,_,hv,hm,hr=>by
   simp only [St.take,Option.some.injEq,Prod.mk.injEq] at h;obtain ⟨rfl,rfl⟩:=h
   simp only [EvV] at hv;subst hv
   exact TakeOK.keep hr hm (by simp [HandV,OwC,zf])
 | .nilp,s,v,s1,F,G,val,h,_,hv,hm,hr=>by
   simp only [St.take,Option.some.injEq,Prod.mk.injEq] at h;obtain ⟨rfl,rfl⟩:=h
   simp only [EvV] at hv;subst hv
   exact TakeOK.keep hr hm (by simp [HandV,OwC,zf])
 | .ro _ _ _,s,v,s1,F,G,val,h,_,hv,hm,hr=>by
   simp only [St.take,Option.some.injEq,Prod.mk.injEq] at h;obtain ⟨rfl,rfl⟩:=h
   simp only [EvV] at hv
   exact TakeOK.keep hr hm (by simp only [HandV,OwC];exact ⟨hv,fun _=>rfl⟩)
 | .own _ _,s,v,s1,F,G,val,h,_,hv,hm,hr=>by simp [EvV] at hv
 | .unk,s,v,s1,F,G,val,h,_,hv,hm,hr=>by
   simp only [St.take,Option.some.injEq,Prod.mk.injEq] at h;obtain ⟨rfl,rfl⟩:=h
   simp only [EvV] at hv
   exact TakeOK.keep hr hm (by simp only [HandV,OwC];exact ⟨⟨val,rfl,hv⟩,fun _=>rfl⟩)
 | .und,s,v,s1,F,G,val,h,_,hv,hm,hr=>by
   simp only [St.take,Option.some.injEq,Prod.mk.injEq] at h;obtain ⟨rfl,rfl⟩:=h
   simp only [EvV] at hv
   exact TakeOK.keep hr hm (by simp only [HandV,OwC];exact ⟨⟨val,rfl,hv⟩,fun _=>rfl⟩)
 | .rop _ _,s,v,s1,F,G,val,h,_,hv,hm,hr=>by simp [St.take] at h
 | .tup _,s,v,s1,F,G,val,h,_,hv,hm,hr=>by simp [St.take] at h
theorem takeL_ok : ∀(xs:List AVal) (s:St) (us:List AVal) (s1:St) (F:Nat→Foot) (G:Foot) (vals:List Value),s.takeL xs=some (us,s1)→(∀K∈keysL xs,K∈M)→EvL w fz O0 R xs vals→Mid M O0 s→RelO w fz al (EvR w O0 R) (Amb M O0 s) R F G →
 TakeOK w fz al O0 R M s s1 F G (HandL w fz (EvR w O0 R) us vals)
 | [],s,us,s1,F,G,vals,h,_,hv,hm,hr=>by
   simp only [St.takeL,Option.some.injEq,Prod.mk.injEq] at h;obtain ⟨rfl,rfl⟩:=h
   simp only [EvL] at hv;subst hv
   exact TakeOK.keep hr hm (by simp [HandL,zf])
 | x::xs,s,us,s1,F,G,vals,h,hk,hv,hm,hr=>by
   simp only [EvL] at hv
   obtain ⟨val,rest,rfl,hv1,hv2⟩:=hv
   simp only [St.takeL] at h
   cases ht:s.take x with
   | none=>rw [ht] at h;simp at h
   | some r=>
     obtain ⟨v,s'⟩:=r
     rw [ht] at h;simp only at h
     cases ht2:s'.takeL xs with
     | none=>rw [ht2] at h;simp at h
     | some r2=>
       obtain ⟨vs,s''⟩:=r2
       rw [ht2] at h;simp only [Option.some.injEq,Prod.mk.injEq] at h
       obtain ⟨rfl,rfl⟩:=h
       obtain ⟨F1,g1,a1,a2,a3,a4,a5,a6,a7⟩:=take_ok x s v s' F G val ht (fun K hK=>hk K (by simp [keysL,hK])) hv1 hm hr
       obtain ⟨F2,g2,b1,b2,b3,b4,b5,b6,b7⟩:=takeL_ok xs s' vs s'' F1 _ rest ht2 (fun K hK=>hk K (by simp [keysL,hK])) hv2 a3 a1
       refine ⟨F2,fun b=>g1 b+g2 b,?_,?_,b3,fun K hK=>(b4 K hK).trans (a4 K hK),fun K b=>Nat.le_trans (b5 K b) (a5 K b),b6.trans a6,b7.trans a7⟩
       · have e:(fun b=>G b+(g1 b+g2 b))=(fun b=>G b+g1 b+g2 b):=by funext b;omega
         rw [e];exact b1
       · exact ⟨val,rest,g1,g2,rfl,a2,b2,fun _=>rfl⟩
end
end take
end Go.VK
namespace Go.VK
open AVal
theorem killVs_length (b:AVal→Bool) : ∀(cs:List AVal),(killVs b cs).length=cs.length
 | []=>rfl
 | c::cs=>by simp [killVs,killVs_length b cs]
theorem killVs_getD (b:AVal→Bool) : ∀(cs:List AVal) (i:Nat),(killVs b cs).getD i .und=killV b (cs.getD i .und)
 | [],i=>by simp [killVs,killV]
 | c::cs,0=>by simp [killVs]
 | c::cs,i+1=>by simpa [killVs] using killVs_getD b cs i
theorem walk_kill {w:World} (b:AVal→Bool) : ∀(p:List Nat) (x:AVal) (l:Loc),walk w (killV b x) l p=walk w x l p
 | [],x,l=>by rw [walk_nil,walk_nil]
 | i::p,x,l=>by
   cases x with
   | agg cs=>
     cases l with
     | val v=>simp [killV,walk]
     | mem c o=>
       simp only [killV,walk,killVs_length,killVs_getD]
       by_cases h:i<cs.length
       · rw [if_pos h,if_pos h];exact walk_kill b p _ _
       · rw [if_neg h,if_neg h]
   | tup cs=>simp [killV,walk]
   | ptr K q off=>simp only [killV];cases b (.ptr K q off) <;> simp [walk]
   | ref K q=>simp only [killV];cases b (.ref K q) <;> simp [walk]
   | clo f cs=>simp only [killV];cases b (.clo f cs) <;> simp [walk]
   | _=>simp [killV]
theorem killV_agg (b:AVal→Bool) (x:AVal) (h:aggQ x=false):aggQ (killV b x)=false:=by
 cases x with
 | ptr K q off=>simp only [killV];cases b (.ptr K q off) <;> simp [aggQ]
 | ref K q=>simp only [killV];cases b (.ref K q) <;> simp [aggQ]
 | clo f cs=>simp only [killV];cases b (.clo f cs) <;> simp [aggQ]
 | agg cs=>simp [aggQ] at h
 | _=>simp [killV,aggQ]
mutual
theorem OwC.kill {w w':World} {fz fz':Nat→Prop} {E E':Env2} {k:AVal→Bool} (hE:keepE k E E') (hf : ∀b,fz b→fz' b∧w'.heap[b]? = w.heap[b]?) : ∀(x:AVal) (c:List Value) (f:Foot),(∀b,0<f b→w'.heap[b]? = w.heap[b]?)→OwC w fz E x c f→OwC w' fz' E' (killV k x) c f
 | .ptr K p off,c,f,hs,h=>by
   simp only [OwC] at h;obtain ⟨⟨v,hc,h1,hv⟩,h0⟩:=h
   simp only [killV]
   cases hk:k (.ptr K p off) with
   | true=>simp only [cond_true,OwC];exact ⟨⟨v,hc,h1⟩,h0⟩
   | false=>simp only [cond_false,OwC];exact ⟨⟨v,hc,h1,hE _ _ hk hv⟩,h0⟩
 | .ref K p,c,f,hs,h=>by
   simp only [OwC] at h;obtain ⟨⟨v,hc,h1,hv⟩,h0⟩:=h
   simp only [killV]
   cases hk:k (.ref K p) with
   | true=>simp only [cond_true,OwC];exact ⟨⟨v,hc,h1⟩,h0⟩
   | false=>simp only [cond_false,OwC];exact ⟨⟨v,hc,h1,hE _ _ hk hv⟩,h0⟩
 | .clo g cs,c,f,hs,h=>by
   simp only [OwC] at h;obtain ⟨⟨v,hc,h1,hv⟩,h0⟩:=h
   simp only [killV]
   cases hk:k (.clo g cs) with
   | true=>simp only [cond_true,OwC];exact ⟨⟨v,hc,h1⟩,h0⟩
   | false=>simp only [cond_false,OwC];exact ⟨⟨v,hc,h1,hE _ _ hk hv⟩,h0⟩
 | .agg cs,c,f,hs,h=>by simp only [OwC,killV] at h ⊢;exact OwL.kill hE hf cs c f hs h
 | .own sz xs,c,f,hs,h=>by
   simp only [killV,OwC] at h ⊢
   obtain ⟨a,cap,hc,hl,h⟩:=h
   refine ⟨a,cap,hc,hl,?_⟩
   rcases h with h|⟨hz,g,off,cs,f',ha,hB,hle,hX,hff⟩
   · exact .inl h
   · refine .inr ⟨hz,g,off,cs,f',ha,hB.same (hs g (by rw [hff];simp)),hle,?_,hff⟩
     exact OwX.mono hf xs NoE NoE (fun _ _ _ h=>h) sz _ f' (fun b hb=>hs b (by rw [hff];omega)) hX
 | .ro t sz xs,c,f,hs,h=>by
   simp only [killV,OwC] at h ⊢
   exact ⟨ROC.mono (fun b hb=>(hf b hb).2) (fun b hb=>(hf b hb).1) _ _ h.1,h.2⟩
 | .und,_,_,_,h=>by simpa [killV,OwC] using h
 | .bool _,_,_,_,h=>by simpa [killV,OwC] using h
 | .int _ _,_,_,_,h=>by simpa [killV,OwC] using h
 | .str _,_,_,_,h=>by simpa [killV,OwC] using h
 | .nilp,_,_,_,h=>by simpa [killV,OwC] using h
 | .unk,_,_,_,h=>by simpa [killV,OwC] using h
 | .nils _,_,_,_,h=>by simpa [killV,OwC] using h
 | .mp kc xs,c,f,hs,h=>by
   simp only [killV,OwC] at h ⊢
   exact h.same hs
 | .rop _ _,_,_,_,h=>by simp [OwC] at h
 | .tup _,_,_,_,h=>by simp [OwC] at h
theorem OwL.kill {w w':World} {fz fz':Nat→Prop} {E E':Env2} {k:AVal→Bool} (hE:keepE k E E') (hf : ∀b,fz b→fz' b∧w'.heap[b]? = w.heap[b]?) : ∀(xs:List AVal) (c:List Value) (f:Foot),(∀b,0<f b→w'.heap[b]? = w.heap[b]?)→OwL w fz E xs c f→OwL w' fz' E' (killVs k xs) c f
 | [],_,_,_,h=>by simpa [killVs,OwL] using h
 | x::xs,c,f,hs,h=>by
   simp only [OwL,killVs] at h ⊢
   obtain ⟨v,r,f1,f2,hc,h1,h2,hff⟩:=h
   exact ⟨v,r,f1,f2,hc,OwC.kill hE hf x _ f1 (fun b hb=>hs b (by rw [hff];omega)) h1,OwL.kill hE hf xs _ f2 (fun b hb=>hs b (by rw [hff];omega)) h2,hff⟩
end
theorem OwO.kill {w w':World} {fz fz':Nat→Prop} {E E':Env2} {k:AVal→Bool} (hE:keepE k E E') (hf : ∀b,fz b→fz' b∧w'.heap[b]? = w.heap[b]?) {o:VObj} {l:Loc} {f:Foot} (hs : ∀b,0<f b→w'.heap[b]? = w.heap[b]?) (h:OwO w fz E o l f):OwO w' fz' E' { o with c:=killV k o.c } l f:=by
 unfold OwO at h ⊢
 split at h
 · rename_i hb
   obtain ⟨b,cs,f',hl,hB,hc,hff⟩:=h
   rw [if_pos hb]
   exact ⟨b,cs,f',hl,hB.same (hs b (by rw [hff];simp)),OwC.kill hE hf _ _ _ (fun b hb=>hs b (by rw [hff];omega)) hc,hff⟩
 · rename_i hb
   obtain ⟨v,hl,hc,ha⟩:=h
   rw [if_neg hb]
   exact ⟨v,hl,OwC.kill hE hf _ _ _ hs hc,killV_agg _ _ ha⟩
theorem OwO.mono {w w':World} {fz fz':Nat→Prop} {E:Env2} (hf : ∀b,fz b→fz' b∧w'.heap[b]? = w.heap[b]?) {o:VObj} {l:Loc} {f:Foot} (hs : ∀b,0<f b→w'.heap[b]? = w.heap[b]?) (h:OwO w fz E o l f):OwO w' fz' E o l f:=by
 unfold OwO at h ⊢
 split at h
 · rename_i hb
   obtain ⟨b,cs,f',hl,hB,hc,hff⟩:=h
   rw [if_pos hb]
   exact ⟨b,cs,f',hl,hB.same (hs b (by rw [hff];simp)),OwC.mono hf _ _ _ (fun _ _ _ h=>h) _ _ (fun b hb=>hs b (by rw [hff];omega)) hc,hff⟩
 · rename_i hb
   obtain ⟨v,hl,hc,ha⟩:=h
   rw [if_neg hb]
   exact ⟨v,hl,OwC.mono hf _ _ _ (fun _ _ _ h=>h) _ _ hs hc,ha⟩
theorem OwO.loc {w:World} {fz:Nat→Prop} {E:Env2} {o:VObj} {l:Loc} {f:Foot} (h:OwO w fz E o l f) :
 ∃c f0,OwC w fz E o.c c f0∧LocAt w l c∧(aggQ o.c=true → ∃b q,l=.mem b q)∧(∀b,f0 b≤f b)∧(∀b q,l=.mem b q→0<f b):=by
 unfold OwO at h
 split at h
 · obtain ⟨b,cs,f',hl,hB,hc,hf⟩:=h
   refine ⟨cs.toList,f',hc,?_,fun _=>⟨_,_,hl⟩,fun b=>by rw [hf];omega,fun b' q he => ?_⟩
   · rw [hl];exact ⟨cs,hB.r,by simp,by simp [List.take_of_length_le]⟩
   · rw [hl] at he;simp at he;rw [←he.1,hf];simp
 · obtain ⟨v,hl,hc,ha⟩:=h
   exact ⟨[v],f,hc,by rw [hl];rfl,fun h0=>by rw [ha] at h0;simp at h0,fun b=>Nat.le_refl _,fun b q he=>by rw [hl] at he;simp at he⟩
structure Stab (w w':World) (O0 O1:OM) (R R1:RM) (ka:List Nat) (ki:List (Nat×List Nat)) (kr:List Nat):Prop where
 there : ∀K u,O0 K=some u→K∉ka → ∃o,O1 K=some o∧R1 K=R K∧(K∉kr→hdOf w' (R K)=hdOf w (R K)) ∧
  (∀p,(∀y∈ki,y.1=K→hitP y.2 p=false) → ∀l,walk w u.c (R K) p=some l→walk w' o.c (R K) p=some l∧hdOf w' l=hdOf w l)
theorem any_mem {ka:List Nat} {v:AVal} (h:(ka.any fun K=>mem K v.keys)=false) : ∀K∈v.keys,K∉ka:=by
 intro K hK hk
 rw [List.any_eq_false] at h
 exact h K hk (mem_iff.2 hK)
theorem Stab.evP {w w':World} {O0 O1:OM} {R R1:RM} {ka kr:List Nat} {ki:List (Nat×List Nat)} (hs:Stab w w' O0 O1 R R1 ka ki kr) {x:AVal} {v:Value} (h1 : ∀K∈x.keys,K∉ka) (h2 : ∀K∈ki,x.into K=false) (h3 : ∀K∈kr,isRef K x=false) (h:EvP w O0 R x v):EvP w' O1 R1 x v:=by
 cases x <;> simp only [EvP] at h ⊢
 case nilp=>exact h
 case ptr K p off=>
  obtain ⟨o,b,q,ho,hw,hv⟩:=h
  obtain ⟨o',ho',hR,_,hwk⟩:=hs.there K o ho (h1 K (by simp [AVal.keys]))
  refine ⟨o',b,q,ho',?_,hv⟩
  rw [hR]
  cases p with
  | nil=>rw [walk_nil] at hw ⊢;exact hw
  | cons i p=>exact (hwk (i::p) (fun y hy he=>by have:=h2 y hy;simp [AVal.into,he] at this;exact this) _ hw).1
 case ref K p=>
  obtain ⟨o,l,ho,hw,hv⟩:=h
  obtain ⟨o',ho',hR,hhd,hwk⟩:=hs.there K o ho (h1 K (by simp [AVal.keys]))
  rw [hR]
  cases p with
  | nil=>
    rw [walk_nil] at hw;obtain rfl:=Option.some.inj hw
    exact ⟨o',_,ho',walk_nil _ _ _,by rw [hhd (fun hk=>by have:=h3 K hk;simp [isRef] at this)];exact hv⟩
  | cons i p=>
    obtain ⟨h4,h5⟩:=hwk (i::p) (fun y hy he=>by have:=h2 y hy;simp [AVal.into,he] at this;exact this) _ hw
    exact ⟨o',l,ho',h4,by rw [h5];exact hv⟩
theorem Stab.evPs {w w':World} {O0 O1:OM} {R R1:RM} {ka kr:List Nat} {ki:List (Nat×List Nat)} (hs:Stab w w' O0 O1 R R1 ka ki kr) : ∀{xs:List AVal} {vs:List Value},(∀K∈keysL xs,K∉ka)→(∀K∈ki,intoL K xs=false)→(∀K∈kr,isRef.refL K xs=false)→EvPs w O0 R xs vs→EvPs w' O1 R1 xs vs
 | [],_,_,_,_,h=>h
 | x::xs,vs,h1,h2,h3,h=>by
   simp only [EvPs] at h ⊢
   obtain ⟨v,r,hv,ha,hb⟩:=h
   refine ⟨v,r,hv,hs.evP (fun K hK=>h1 K (by simp [keysL,hK])) (fun K hK => ?_) (fun K hK => ?_) ha,Stab.evPs hs (fun K hK=>h1 K (by simp [keysL,hK])) (fun K hK => ?_) (fun K hK => ?_) hb⟩
   · have:=h2 K hK;simp [intoL] at this;exact this.1
   · have:=h3 K hK
     cases x <;> simp only [isRef] <;> simp only [EvP] at ha <;> first|rfl|(simp [isRef.refL] at this ⊢;exact this.1)
   · have:=h2 K hK;simp [intoL] at this;exact this.2
   · have:=h3 K hK
     cases x <;> simp [isRef.refL] at this <;> first|exact this|exact this.2
theorem Stab.keepE {w w':World} {O0 O1:OM} {R R1:RM} {ka kr:List Nat} {ki:List (Nat×List Nat)} (hs:Stab w w' O0 O1 R R1 ka ki kr):keepE (AVal.dead ka ki kr) (EvR w O0 R) (EvR w' O1 R1):=by
 intro x v hd h
 simp only [AVal.dead,Bool.or_eq_false_iff] at hd
 obtain ⟨ha,hi,hr⟩:=hd
 have h1:=any_mem ha
 have h2 : ∀K∈ki,x.into K=false:=fun K hK=>by have:=List.any_eq_false.1 hi K hK;simpa using this
 have h3 : ∀K∈kr,isRef K x=false:=fun K hK=>by have:=List.any_eq_false.1 hr K hK;simpa using this
 cases x <;> simp only [EvR] at h ⊢
 case clo f cs=>
  obtain ⟨vs,hv,hp⟩:=h
  exact ⟨vs,hv,hs.evPs (by simpa [AVal.keys] using h1) (fun K hK=>by have:=h2 K hK;simpa [AVal.into] using this) (fun K hK=>by have:=h3 K hK;simpa [isRef] using this) hp⟩
 all_goals exact hs.evP h1 h2 h3 h
mutual
theorem EvV.kill {w w':World} {fz fz':Nat→Prop} {O0 O1:OM} {R R1:RM} {k:AVal→Bool} (hE:VK.keepE k (EvR w O0 R) (EvR w' O1 R1)) (hf : ∀b,fz b→fz' b∧w'.heap[b]? = w.heap[b]?) : ∀(x:AVal) (v:Value),EvV w fz O0 R x v→EvV w' fz' O1 R1 (killV k x) v
 | .ptr K p off,v,h=>by
   simp only [killV]
   cases hk:k (.ptr K p off) with
   | true=>simp only [EvV,EvR,EvP] at h;obtain ⟨o,b,q,_,_,rfl⟩:=h;simp only [cond_true,EvV];rfl
   | false=>simp only [cond_false,EvV] at h ⊢;exact hE _ _ hk h
 | .ref K p,v,h=>by
   simp only [killV]
   cases hk:k (.ref K p) with
   | true=>simp only [EvV,EvR,EvP] at h;obtain ⟨_,_,_,_,_,h1⟩:=h;simp only [cond_true,EvV];exact h1
   | false=>simp only [cond_false,EvV] at h ⊢;exact hE _ _ hk h
 | .clo f cs,v,h=>by
   simp only [killV]
   cases hk:k (.clo f cs) with
   | true=>simp only [EvV,EvR] at h;obtain ⟨_,rfl,_⟩:=h;simp only [cond_true,EvV];exact cloV_one _ _
   | false=>simp only [cond_false,EvV] at h ⊢;exact hE _ _ hk h
 | .rop x off,v,h=>by
   simp only [killV,EvV] at h ⊢
   obtain ⟨b,o,cs,hv,hb,hB,hx⟩:=h
   exact ⟨b,o,cs,hv,(hf b hb).1,hB.same (hf b hb).2,ROC.mono (fun b hb=>(hf b hb).2) (fun b hb=>(hf b hb).1) _ _ hx⟩
 | .agg cs,v,h=>by
   simp only [killV,EvV] at h ⊢
   obtain ⟨vs,hv,h⟩:=h
   exact ⟨vs,hv,EvL.kill hE hf cs _ h⟩
 | .tup cs,v,h=>by
   simp only [killV,EvV] at h ⊢
   obtain ⟨vs,hv,h⟩:=h
   exact ⟨vs,hv,EvL.kill hE hf cs _ h⟩
 | .ro t sz xs,v,h=>by
   simp only [killV,EvV] at h ⊢
   exact ROC.mono (fun b hb=>(hf b hb).2) (fun b hb=>(hf b hb).1) _ _ h
 | .own _ _,v,h=>by simp [EvV] at h
 | .und,_,h=>by simpa [killV,EvV] using h
 | .bool _,_,h=>by simpa [killV,EvV] using h
 | .int _ _,_,h=>by simpa [killV,EvV] using h
 | .str _,_,h=>by simpa [killV,EvV] using h
 | .nilp,_,h=>by simpa [killV,EvV] using h
 | .unk,_,h=>by simpa [killV,EvV] using h
 | .nils _,_,h=>by simpa [killV,EvV] using h
theorem EvL.kill {w w':World} {fz fz':Nat→Prop} {O0 O1:OM} {R R1:RM} {k:AVal→Bool} (hE:VK.keepE k (EvR w O0 R) (EvR w' O1 R1)) (hf : ∀b,fz b→fz' b∧w'.heap[b]? = w.heap[b]?) : ∀(xs:List AVal) (vs:List Value),EvL w fz O0 R xs vs→EvL w' fz' O1 R1 (killVs k xs) vs
 | [],_,h=>by simpa [killVs,EvL] using h
 | x::xs,vs,h=>by
   simp only [EvL,killVs] at h ⊢
   obtain ⟨v,r,hv,h1,h2⟩:=h
   exact ⟨v,r,hv,EvV.kill hE hf x _ h1,EvL.kill hE hf xs _ h2⟩
end
end Go.VK
namespace Go.VK
open AVal
def Mix (M:List Nat) (O0:OM) (l:List (Nat×VObj)):OM:=fun K=>if K∈M then lk l K else O0 K
structure EffOK (w:World) (fz al:Nat→Prop) (O0:OM) (R:RM) (M:List Nat) (e:Eff) (w':World) (fz':Nat→Prop) (R1:RM) (F1:Nat→Foot):Prop where
 ro:RelO w' fz' al (EvR w O0 R) (Mix M O0 e.objs) R1 F1 zf
 sub : ∀K o,lk e.objs K=some o→K∈M
 fzs : ∀b,fz b→fz' b∧w'.heap[b]? = w.heap[b]?
 stab:Stab w w' O0 (Mix M O0 e.objs) R R1 e.ka e.ki e.kr
 keep:Keep w al w'
theorem join_obj (s:St) (M:List Nat) (dst:Option Nat) (e:Eff) (hsub : ∀K o,lk e.objs K=some o→K∈M) (K:Nat) :
 (s.join M dst e).obj K=(Mix M s.obj e.objs K).map fun o=>{ o with c:=killV (AVal.dead e.ka e.ki e.kr) o.c }:=by
 simp only [St.join,St.obj,lk_append,lk_killObjs,lk_delAll,Mix]
 by_cases h:K∈M
 · simp [h]
 · have:lk e.objs K=none:=by
    cases hx:lk e.objs K with
    | none=>rfl
    | some o=>exact absurd (hsub K o hx) h
   simp [h,this]
theorem Stab.kill {w w':World} {O0 O1 O2:OM} {R R1:RM} {ka kr:List Nat} {ki:List (Nat×List Nat)} (hs:Stab w w' O0 O1 R R1 ka ki kr) (k:AVal→Bool) (h2 : ∀K,O2 K=(O1 K).map fun o=>{ o with c:=killV k o.c }):Stab w w' O0 O2 R R1 ka ki kr:=by
 refine ⟨fun K u hu hk => ?_⟩
 obtain ⟨o,ho,h3,h4,h5⟩:=hs.there K u hu hk
 exact ⟨{ o with c:=killV k o.c },by rw [h2,ho];rfl,h3,h4,fun p hn l hw=>by rw [walk_kill];exact h5 p hn l hw⟩
theorem lk_env_join (s:St) (M:List Nat) (dst:Option Nat) (e:Eff) (t:Nat) (v:AVal) (h:lk (s.join M dst e).env t=some v) :
 (dst=some t∧e.v=some v)∨(¬(dst=some t∧e.v.isSome=true) ∧ ∃u,lk s.env t=some u∧v=killV (AVal.dead e.ka e.ki e.kr) u):=by
 simp only [St.join] at h
 cases dst with
 | none=>
   simp only [lk_killIn] at h
   cases hu:lk s.env t with
   | none=>rw [hu] at h;simp at h
   | some u=>rw [hu] at h;simp at h;exact .inr ⟨by simp,u,rfl,h.symm⟩
 | some d=>
   cases hv:e.v with
   | none=>
     rw [hv] at h;simp only [lk_killIn] at h
     cases hu:lk s.env t with
     | none=>rw [hu] at h;simp at h
     | some u=>rw [hu] at h;simp at h;exact .inr ⟨by simp,u,rfl,h.symm⟩
   | some x=>
     rw [hv] at h;simp only [lk_ins,lk_killIn] at h
     by_cases htd:t=d
     · subst htd;simp at h;exact .inl ⟨rfl,by rw [h]⟩
     · rw [if_neg htd] at h
       cases hu:lk s.env t with
       | none=>rw [hu] at h;simp at h
       | some u=>rw [hu] at h;simp at h;exact .inr ⟨by simp [Ne.symm htd],u,rfl,h.symm⟩
theorem join_rel {w w':World} {fz fz' al:Nat→Prop} {s:St} {tm:Array Value} {R R1:RM} {F F1:Nat→Foot} {M:List Nat} {e:Eff} (hr:Rel w fz al s.env tm s.obj R F) (he:EffOK w fz al s.obj R M e w' fz' R1 F1) (dst:Option Nat) (tm':Array Value)
 (hsz:tm'.size=tm.size) (hother : ∀t,dst≠some t→tm'.getD t undef=tm.getD t undef) (hsome : ∀d,dst=some d→e.v.isSome=true)
 (hval : ∀d v,dst=some d→e.v=some v→d<tm.size∧EvV w' fz' (s.join M dst e).obj R1 v (tm'.getD d undef)) :
 Rel w' fz' al (s.join M dst e).env tm' (s.join M dst e).obj R1 F1:=by
 have hj:=join_obj s M dst e he.sub
 have hst:=he.stab.kill (AVal.dead e.ka e.ki e.kr) hj
 have hE:=hst.keepE
 have hof : ∀K o,(s.join M dst e).obj K=some o → ∃o',Mix M s.obj e.objs K=some o'∧o={ o' with c:=killV (AVal.dead e.ka e.ki e.kr) o'.c }:=by
  intro K o ho
  rw [hj] at ho
  cases hm:Mix M s.obj e.objs K with
  | none=>rw [hm] at ho;simp at ho
  | some o'=>rw [hm] at ho;exact ⟨o',rfl,(Option.some.inj ho).symm⟩
 refine ⟨fun t v h => ?_,fun K o ho => ?_,fun K o ho => ?_,fun K o J u hne ho hu => ?_,fun K o ho => ?_,he.ro.lt⟩
 · rcases lk_env_join s M dst e t v h with ⟨hd,hv⟩|⟨hnd,u,hu,rfl⟩
   · obtain ⟨h1,h2⟩:=hval t v hd hv
     exact ⟨by rw [hsz];exact h1,h2⟩
   · obtain ⟨h1,h2⟩:=hr.env t u hu
     refine ⟨by rw [hsz];exact h1,?_⟩
     have:dst≠some t:=fun hd=>hnd ⟨hd,hsome t hd⟩
     rw [hother t this]
     exact EvV.kill hE he.fzs u _ h2
 · obtain ⟨o',ho',rfl⟩:=hof K o ho
   exact OwO.kill hE (fun b hb=>⟨hb,rfl⟩) (fun _ _=>rfl) (he.ro.obj K o' ho')
 · obtain ⟨o',ho',rfl⟩:=hof K o ho
   exact he.ro.one K o' ho'
 · obtain ⟨o',ho',rfl⟩:=hof K o ho
   obtain ⟨u',hu',rfl⟩:=hof J u hu
   exact he.ro.dis K o' J u' hne ho' hu'
 · obtain ⟨o',ho',rfl⟩:=hof K o ho
   exact he.ro.own K o' ho'
theorem Rel.toO {w:World} {fz al:Nat→Prop} {env:List (Nat×AVal)} {tm:Array Value} {O:OM} {R:RM} {F:Nat→Foot} (h:Rel w fz al env tm O R F):RelO w fz al (EvR w O R) O R F zf:=
 ⟨h.obj,h.one,h.dis,h.own,fun _=>Nat.zero_le _,fun _ _ _ _=>.inr rfl,fun b hb=>by simp [zf] at hb,h.lt⟩
theorem Keep.refl (w:World) (al:Nat→Prop):Keep w al w:=⟨rfl,rfl,rfl,Nat.le_refl _,fun _ _ _=>rfl⟩
theorem Keep.trans {w w1 w2:World} {al:Nat→Prop} (h:Keep w al w1) (k:Keep w1 al w2):Keep w al w2:=
 ⟨k.os.trans h.os,k.tape.trans h.tape,k.output.trans h.output,Nat.le_trans h.size k.size,fun b hb ha=>(k.block b (Nat.lt_of_lt_of_le hb h.size) ha).trans (h.block b hb ha)⟩
theorem EffOK.same {w:World} {fz al:Nat→Prop} {s:St} {tm:Array Value} {R:RM} {F:Nat→Foot} (hr:Rel w fz al s.env tm s.obj R F) {M:List Nat} {e:Eff} (hp : ∀K,K∈M→lk e.objs K=s.obj K) (hsub : ∀K o,lk e.objs K=some o→K∈M):EffOK w fz al s.obj R M e w fz R F:=by
 have hmix:Mix M s.obj e.objs=s.obj:=by
  funext K;simp only [Mix];split
  · rename_i h;exact hp K h
  · rfl
 refine ⟨by rw [hmix];exact hr.toO,hsub,fun b hb=>⟨hb,rfl⟩,?_,Keep.refl w al⟩
 rw [hmix]
 exact ⟨fun K u hu _=>⟨u,hu,rfl,fun _=>rfl,fun _ p l hw=>⟨hw,rfl⟩⟩⟩
mutual
theorem OwC.lt {w:World} {fz:Nat→Prop} : ∀(x:AVal) (E:Env2) (c:List Value) (f:Foot),OwC w fz E x c f → ∀b,0<f b→b<w.heap.size
 | .mp kc xs,E,c,f,h,b,hb=>by
   simp only [OwC] at h
   exact h.lt b hb
 | .agg cs,E,c,f,h,b,hb=>by simp only [OwC] at h;exact OwL.lt cs E c f h b hb
 | .own sz xs,E,c,f,h,b,hb=>by
   simp only [OwC] at h
   obtain ⟨a,cap,_,_,h⟩:=h
   rcases h with ⟨_,h0⟩|⟨_,g,off,cs,f',_,hB,_,hX,hf⟩
   · have:=h0 b;omega
   · by_cases h1:0<f' b
     · exact OwX.lt xs NoE sz _ f' hX b h1
     · have h2:=hf b
       by_cases hbg:b=g
       · subst hbg;exact hB.r.lt
       · rw [if_neg hbg] at h2;omega
 | .und,E,c,f,h,b,hb=>by simp only [OwC] at h;have:=h.2 b;omega
 | .ptr K p off,E,c,f,h,b,hb=>by simp only [OwC] at h;have:=h.2 b;omega
 | .ref K p,E,c,f,h,b,hb=>by simp only [OwC] at h;have:=h.2 b;omega
 | .clo g cs,E,c,f,h,b,hb=>by simp only [OwC] at h;have:=h.2 b;omega
 | .rop x o,E,c,f,h,b,hb=>by simp [OwC] at h
 | .tup cs,E,c,f,h,b,hb=>by simp [OwC] at h
 | .bool v,E,c,f,h,b,hb=>by simp only [OwC] at h;have:=h.2 b;omega
 | .int k n,E,c,f,h,b,hb=>by simp only [OwC] at h;have:=h.2 b;omega
 | .str s,E,c,f,h,b,hb=>by simp only [OwC] at h;have:=h.2 b;omega
 | .nilp,E,c,f,h,b,hb=>by simp only [OwC] at h;have:=h.2 b;omega
 | .unk,E,c,f,h,b,hb=>by simp only [OwC] at h;have:=h.2 b;omega
 | .nils sz,E,c,f,h,b,hb=>by simp only [OwC] at h;have:=h.2 b;omega
 | .ro t sz xs,E,c,f,h,b,hb=>by simp only [OwC] at h;have:=h.2 b;omega
theorem OwL.lt {w:World} {fz:Nat→Prop} : ∀(xs:List AVal) (E:Env2) (c:List Value) (f:Foot),OwL w fz E xs c f → ∀b,0<f b→b<w.heap.size
 | [],E,c,f,h,b,hb=>by simp only [OwL] at h;have:=h.2 b;omega
 | x::xs,E,c,f,h,b,hb=>by
   simp only [OwL] at h
   obtain ⟨v,r,f1,f2,_,h1,h2,hf⟩:=h
   by_cases h0:0<f1 b
   · exact OwC.lt x E _ f1 h1 b h0
   · exact OwL.lt xs E _ f2 h2 b (by have:=hf b;omega)
theorem OwX.lt {w:World} {fz:Nat→Prop} : ∀(xs:List AVal) (E:Env2) (sz:Nat) (c:List Value) (f:Foot),OwX w fz E xs sz c f → ∀b,0<f b→b<w.heap.size
 | [],E,sz,c,f,h,b,hb=>by simp only [OwX] at h;have:=h b;omega
 | x::xs,E,sz,c,f,h,b,hb=>by
   simp only [OwX] at h
   obtain ⟨c1,c2,f1,f2,_,_,h1,h2,hf⟩:=h
   by_cases h0:0<f1 b
   · exact OwC.lt x E _ f1 h1 b h0
   · exact OwX.lt xs E sz _ f2 h2 b (by have:=hf b;omega)
end
theorem OwO.lt {w:World} {fz:Nat→Prop} {E:Env2} {o:VObj} {l:Loc} {f:Foot} (h:OwO w fz E o l f) {b:Nat} (hb:0<f b):b<w.heap.size:=by
 unfold OwO at h
 split at h
 · obtain ⟨g,cs,f',_,hB,hc,hf⟩:=h
   by_cases h0:0<f' b
   · exact OwC.lt _ _ _ _ hc b h0
   · have h2:=hf b
     by_cases hbg:b=g
     · subst hbg;exact hB.r.lt
     · rw [if_neg hbg] at h2;omega
 · obtain ⟨v,_,hc,_⟩:=h
   exact OwC.lt _ _ _ _ hc b hb
theorem RelO.grow {w w':World} {fz fz' al:Nat→Prop} {E:Env2} {O:OM} {R:RM} {F:Nat→Foot} {G:Foot} (h:RelO w fz al E O R F G) (hs : ∀b,b<w.heap.size→w'.heap[b]? = w.heap[b]?) (hsz:w.heap.size≤w'.heap.size) (hfz : ∀b,fz' b↔fz b):RelO w' fz' al E O R F G:=by
 have hlt : ∀K o,O K=some o → ∀b,0<F K b→b<w.heap.size:=by
  intro K o ho b hb
  exact OwO.lt (h.obj K o ho) hb
 refine ⟨fun K o ho=>OwO.mono (fun b hb=>⟨(hfz b).2 hb,hs b (h.lt b hb)⟩) (fun b hb=>hs b (hlt K o ho b hb)) (h.obj K o ho),h.one,h.dis,fun K o ho b hb => ?_,h.g1,h.gd,fun b hb => ?_,fun b hb=>Nat.lt_of_lt_of_le (h.lt b ((hfz b).1 hb)) hsz⟩
 · have:=h.own K o ho b hb;exact ⟨this.1,fun h0=>this.2 ((hfz b).1 h0)⟩
 · have:=h.go b hb;exact ⟨this.1,fun h0=>this.2 ((hfz b).1 h0)⟩
end Go.VK
namespace Go.VK
open AVal
theorem subM_iff {M:List Nat} : ∀{l:List Nat},subM M l=true ↔ ∀K∈l,K∈M
 | []=>by simp [subM]
 | K::r=>by simp [subM,mem_iff,subM_iff (l:=r)]
theorem apart_iff {l:List Nat} : ∀{r:List Nat},apart r l=true ↔ ∀K∈r,K∉l
 | []=>by simp [apart]
 | K::r=>by simp [apart,mem_false,apart_iff (r:=r)]
mutual
theorem anyDead_id (b:AVal→Bool) : ∀(v:AVal),anyDead b v=false→killV b v=v
 | .ptr K p off,h=>by simp only [anyDead] at h;simp [killV,h]
 | .ref K p,h=>by simp only [anyDead] at h;simp [killV,h]
 | .clo f cs,h=>by simp only [anyDead] at h;simp [killV,h]
 | .agg cs,h=>by simp only [anyDead] at h;simp [killV,anyDeads_id b cs h]
 | .tup cs,h=>by simp only [anyDead] at h;simp [killV,anyDeads_id b cs h]
 | .und,_=>rfl
 | .bool _,_=>rfl
 | .int _ _,_=>rfl
 | .str _,_=>rfl
 | .nilp,_=>rfl
 | .unk,_=>rfl
 | .mp _ _,_=>rfl
 | .rop _ _,_=>rfl
 | .ro _ _ _,_=>rfl
 | .own _ _,_=>rfl
 | .nils _,_=>rfl
theorem anyDeads_id (b:AVal→Bool) : ∀(cs:List AVal),anyDeads b cs=false→killVs b cs=cs
 | [],_=>rfl
 | c::cs,h=>by
   simp only [anyDeads,Bool.or_eq_false_iff] at h
   simp [killVs,anyDead_id b c h.1,anyDeads_id b cs h.2]
end
mutual
theorem noUnd_id (b:AVal→Bool) : ∀(v:AVal),noUnd (killV b v)=true→killV b v=v
 | .ptr K p off,h=>by simp only [killV] at h ⊢;cases hb:b (.ptr K p off) <;> simp [hb,noUnd] at h ⊢
 | .ref K p,h=>by simp only [killV] at h ⊢;cases hb:b (.ref K p) <;> simp [hb,noUnd] at h ⊢
 | .clo f cs,h=>by simp only [killV] at h ⊢;cases hb:b (.clo f cs) <;> simp [hb,noUnd] at h ⊢
 | .agg cs,h=>by simp only [killV,noUnd] at h ⊢;rw [noUnds_id b cs h]
 | .tup cs,h=>by simp only [killV,noUnd] at h ⊢;rw [noUnds_id b cs h]
 | .und,_=>rfl
 | .bool _,_=>rfl
 | .int _ _,_=>rfl
 | .str _,_=>rfl
 | .nilp,_=>rfl
 | .unk,_=>rfl
 | .mp _ _,_=>rfl
 | .rop _ _,_=>rfl
 | .ro _ _ _,_=>rfl
 | .own _ _,_=>rfl
 | .nils _,_=>rfl
theorem noUnds_id (b:AVal→Bool) : ∀(cs:List AVal),noUnds (killVs b cs)=true→killVs b cs=cs
 | [],_=>rfl
 | c::cs,h=>by
   simp only [killVs,noUnds,Bool.and_eq_true] at h
   simp [killVs,noUnd_id b c h.1,noUnds_id b cs h.2]
end
mutual
theorem killV_comm (b c:AVal→Bool) : ∀(v:AVal),killV b (killV c v)=killV c (killV b v)
 | .ptr K p off=>by simp only [killV];cases hb:b (.ptr K p off) <;> cases hc:c (.ptr K p off) <;> simp [killV,hb,hc]
 | .ref K p=>by simp only [killV];cases hb:b (.ref K p) <;> cases hc:c (.ref K p) <;> simp [killV,hb,hc]
 | .clo f cs=>by simp only [killV];cases hb:b (.clo f cs) <;> cases hc:c (.clo f cs) <;> simp [killV,hb,hc]
 | .agg cs=>by simp only [killV];rw [killVs_comm b c cs]
 | .tup cs=>by simp only [killV];rw [killVs_comm b c cs]
 | .und=>rfl
 | .bool _=>rfl
 | .int _ _=>rfl
 | .str _=>rfl
 | .nilp=>rfl
 | .unk=>rfl
 | .mp _ _=>rfl
 | .rop _ _=>rfl
 | .ro _ _ _=>rfl
 | .own _ _=>rfl
 | .nils _=>rfl
theorem killVs_comm (b c:AVal→Bool) : ∀(cs:List AVal),killVs b (killVs c cs)=killVs c (killVs b cs)
 | []=>rfl
 | x::cs=>by simp only [killVs];rw [killV_comm b c x,killVs_comm b c cs]
end
mutual
theorem keys_kill (b:AVal→Bool) : ∀(v:AVal) (K:Nat),K∈(killV b v).keys→K∈v.keys
 | .ptr J p off,K,h=>by simp only [killV] at h;cases hb:b (.ptr J p off) <;> simp [hb,keys] at h ⊢;exact h
 | .ref J p,K,h=>by simp only [killV] at h;cases hb:b (.ref J p) <;> simp [hb,keys] at h ⊢;exact h
 | .clo f cs,K,h=>by simp only [killV] at h;cases hb:b (.clo f cs) <;> simp [hb,keys] at h ⊢;exact h
 | .agg cs,K,h=>by simp only [killV,keys] at h ⊢;exact keysL_kill b cs K h
 | .tup cs,K,h=>by simp only [killV,keys] at h ⊢;exact keysL_kill b cs K h
 | .und,_,h=>h
 | .bool _,_,h=>h
 | .int _ _,_,h=>h
 | .str _,_,h=>h
 | .nilp,_,h=>h
 | .unk,_,h=>h
 | .rop _ _,_,h=>h
 | .ro _ _ _,_,h=>h
 | .own _ _,_,h=>h
 | .nils _,_,h=>h
theorem keysL_kill (b:AVal→Bool) : ∀(cs:List AVal) (K:Nat),K∈keysL (killVs b cs)→K∈keysL cs
 | [],_,h=>h
 | c::cs,K,h=>by
   simp only [killVs,keysL,List.mem_append] at h ⊢
   exact h.imp (keys_kill b c K) (keysL_kill b cs K)
end
mutual
theorem into_keys (K:Nat×List Nat) : ∀(v:AVal),v.into K=true→K.1∈v.keys
 | .ptr J p off,h=>by simp [into] at h;simp [keys,h.1]
 | .ref J p,h=>by simp [into] at h;simp [keys,h.1]
 | .clo f cs,h=>by simp only [into,keys] at h ⊢;exact intoL_keys K cs h
 | .agg cs,h=>by simp only [into,keys] at h ⊢;exact intoL_keys K cs h
 | .tup cs,h=>by simp only [into,keys] at h ⊢;exact intoL_keys K cs h
 | .und,h=>by simp [into] at h
 | .bool _,h=>by simp [into] at h
 | .int _ _,h=>by simp [into] at h
 | .str _,h=>by simp [into] at h
 | .nilp,h=>by simp [into] at h
 | .unk,h=>by simp [into] at h
 | .rop _ _,h=>by simp [into] at h
 | .ro _ _ _,h=>by simp [into] at h
 | .own _ _,h=>by simp [into] at h
 | .nils _,h=>by simp [into] at h
theorem intoL_keys (K:Nat×List Nat) : ∀(cs:List AVal),intoL K cs=true→K.1∈keysL cs
 | [],h=>by simp [intoL] at h
 | c::cs,h=>by
   simp only [intoL,Bool.or_eq_true] at h
   simp only [keysL,List.mem_append]
   exact h.imp (into_keys K c) (intoL_keys K cs)
end
theorem refL_keys (K:Nat) : ∀(cs:List AVal),isRef.refL K cs=true→K∈keysL cs
 | [],h=>by simp [isRef.refL] at h
 | c::cs,h=>by
   simp only [keysL,List.mem_append]
   cases c with
   | ref J p=>
     simp only [isRef.refL,Bool.or_eq_true] at h
     rcases h with h|h
     · exact .inl (by simp at h;simp [keys,h])
     · exact .inr (refL_keys K cs h)
   | _=>exact .inr (refL_keys K cs (by simpa [isRef.refL] using h))
theorem isRef_keys (K:Nat) (v:AVal) (h:isRef K v=true):K∈v.keys:=by
 cases v with
 | ref J p=>simp [isRef] at h;simp [keys,h]
 | clo f cs=>simp only [isRef,keys] at h ⊢;exact refL_keys K cs h
 | _=>simp [isRef] at h
theorem dead_keys {ka kr:List Nat} {ki:List (Nat×List Nat)} {v:AVal} (h:v.dead ka ki kr=true) : ∃K,(K∈ka∨K∈kk ki∨K∈kr)∧K∈v.keys:=by
 simp only [AVal.dead,Bool.or_eq_true,List.any_eq_true] at h
 rcases h with ⟨K,hK,h⟩|⟨K,hK,h⟩|⟨K,hK,h⟩
 · exact ⟨K,.inl hK,mem_iff.1 h⟩
 · exact ⟨K.1,.inr (.inl (List.mem_map.2 ⟨K,hK,rfl⟩)),into_keys K v h⟩
 · exact ⟨K,.inr (.inr hK),isRef_keys K v h⟩
mutual
theorem anyDead_keys {b:AVal→Bool} {X:Nat→Prop} (hb : ∀v,b v=true → ∃K,X K∧K∈v.keys) : ∀(v:AVal),anyDead b v=true → ∃K,X K∧K∈v.keys
 | .ptr J p off,h=>by simp only [anyDead] at h;exact hb _ h
 | .ref J p,h=>by simp only [anyDead] at h;exact hb _ h
 | .clo f cs,h=>by simp only [anyDead] at h;exact hb _ h
 | .agg cs,h=>by simp only [anyDead,keys] at h ⊢;exact anyDeads_keys hb cs h
 | .tup cs,h=>by simp only [anyDead,keys] at h ⊢;exact anyDeads_keys hb cs h
 | .und,h=>by simp [anyDead] at h
 | .bool _,h=>by simp [anyDead] at h
 | .int _ _,h=>by simp [anyDead] at h
 | .str _,h=>by simp [anyDead] at h
 | .nilp,h=>by simp [anyDead] at h
 | .unk,h=>by simp [anyDead] at h
 | .rop _ _,h=>by simp [anyDead] at h
 | .ro _ _ _,h=>by simp [anyDead] at h
 | .own _ _,h=>by simp [anyDead] at h
 | .nils _,h=>by simp [anyDead] at h
theorem anyDeads_keys {b:AVal→Bool} {X:Nat→Prop} (hb : ∀v,b v=true → ∃K,X K∧K∈v.keys) : ∀(cs:List AVal),anyDeads b cs=true → ∃K,X K∧K∈keysL cs
 | [],h=>by simp [anyDeads] at h
 | c::cs,h=>by
   simp only [anyDeads,Bool.or_eq_true] at h
   rcases h with h|h
   · obtain ⟨K,h1,h2⟩:=anyDead_keys hb c h
     exact ⟨K,h1,by simp [keysL,h2]⟩
   · obtain ⟨K,h1,h2⟩:=anyDeads_keys hb cs h
     exact ⟨K,h1,by simp [keysL,h2]⟩
end
mutual
theorem anyDead_kill {b c:AVal→Bool} : ∀(v:AVal),anyDead b v=false→anyDead b (killV c v)=false
 | .ptr J p off,h=>by simp only [killV];cases hc:c (.ptr J p off) <;> simp [anyDead] at h ⊢;exact h
 | .ref J p,h=>by simp only [killV];cases hc:c (.ref J p) <;> simp [anyDead] at h ⊢;exact h
 | .clo f cs,h=>by simp only [killV];cases hc:c (.clo f cs) <;> simp [anyDead] at h ⊢;exact h
 | .agg cs,h=>by simp only [killV,anyDead] at h ⊢;exact anyDeads_kill cs h
 | .tup cs,h=>by simp only [killV,anyDead] at h ⊢;exact anyDeads_kill cs h
 | .und,h=>h
 | .bool _,h=>h
 | .int _ _,h=>h
 | .str _,h=>h
 | .nilp,h=>h
 | .unk,h=>h
 | .mp _ _,h=>h
 | .rop _ _,h=>h
 | .ro _ _ _,h=>h
 | .own _ _,h=>h
 | .nils _,h=>h
theorem anyDeads_kill {b c:AVal→Bool} : ∀(cs:List AVal),anyDeads b cs=false→anyDeads b (killVs c cs)=false
 | [],h=>h
 | x::cs,h=>by
   simp only [anyDeads,killVs,Bool.or_eq_false_iff] at h ⊢
   exact ⟨anyDead_kill x h.1,anyDeads_kill cs h.2⟩
end
def Eff.dead (e:Eff):AVal→Bool:=AVal.dead e.ka e.ki e.kr
theorem hitIn_iff {b:AVal→Bool} {M:List Nat} {calm:Bool} {l:List (Nat×VObj)} : ∀{r:List (Nat×VObj)},hitIn b M calm l r=false ↔ ∀K∈r.map (·.1),∀o,lk l K=some o→(calm=true∨K∉M)→anyDead b o.c=false
 | []=>by simp [hitIn]
 | (K,u)::r=>by
   simp only [hitIn,Bool.or_eq_false_iff,hitIn_iff (r:=r),List.map_cons,List.mem_cons,forall_eq_or_imp]
   refine and_congr_left fun _ => ?_
   cases hl:lk l K with
   | none=>simp
   | some o=>
     simp only [Option.some.injEq,forall_eq']
     by_cases hM:K∈M
     · have:=mem_iff.2 hM
       cases calm <;> simp [this,hM]
     · have:=mem_false.2 hM
       cases calm <;> simp [this,hM]
theorem hitIn_all {b:AVal→Bool} {M:List Nat} {calm:Bool} {l:List (Nat×VObj)}:hitIn b M calm l l=false ↔ ∀K o,lk l K=some o→(calm=true∨K∉M)→anyDead b o.c=false:=by
 rw [hitIn_iff]
 exact ⟨fun h K o ho=>h K (lk_mem ho) o ho,fun h K _ o ho=>h K o ho⟩
end Go.VK
namespace Go.VK
open AVal
def St.like (s t:St):Prop:=(∀k,lk t.env k=lk s.env k) ∧ ∀K,lk t.objs K=lk s.objs K
theorem St.like.refl (s:St):s.like s:=⟨fun _=>rfl,fun _=>rfl⟩
theorem St.like.symm {s t:St} (h:s.like t):t.like s:=⟨fun k=>(h.1 k).symm,fun K=>(h.2 K).symm⟩
theorem St.like.trans {s t u:St} (h:s.like t) (k:t.like u):s.like u:=⟨fun x=>(k.1 x).trans (h.1 x),fun x=>(k.2 x).trans (h.2 x)⟩
theorem St.like.tmp {s t:St} (h:s.like t) (x:Nat):t.tmp x=s.tmp x:=by simp [St.tmp,h.1]
theorem sel_congr {α:Type} {l m:List (Nat×α)} : ∀{ks:List Nat},(∀k∈ks,lk m k=lk l k)→sel ks m=sel ks l
 | [],_=>rfl
 | k::ks,h=>by
   simp only [sel,h k (by simp)]
   rw [sel_congr (ks:=ks) fun j hj=>h j (by simp [hj])]
theorem mem_dedup {K:Nat} : ∀{l acc:List Nat},K∈dedup l acc↔K∈l∨K∈acc
 | [],acc=>by simp [dedup]
 | J::r,acc=>by
   simp only [dedup]
   cases hm:mem J acc with
   | true=>
     simp only [cond_true,mem_dedup (l:=r),List.mem_cons]
     have:=mem_iff.1 hm
     constructor
     · rintro (h|h)
       · exact .inl (.inr h)
       · exact .inr h
     · rintro ((rfl|h)|h)
       · exact .inr this
       · exact .inl h
       · exact .inr h
   | false=>
     simp only [cond_false,mem_dedup (l:=r),List.mem_cons]
     constructor
     · rintro (h|rfl|h)
       · exact .inl (.inr h)
       · exact .inl (.inl rfl)
       · exact .inr h
     · rintro ((rfl|h)|h)
       · exact .inr (.inl rfl)
       · exact .inl h
       · exact .inr (.inr h)
theorem mem_objKeys {J:Nat} : ∀{l:List (Nat×VObj)},J∈objKeys l ↔ ∃x∈l,J∈x.2.c.keys
 | []=>by simp [objKeys]
 | (K,o)::r=>by simp [objKeys,mem_objKeys (l:=r)]
theorem mem_envKeys {J:Nat} : ∀{l:List (Nat×AVal)},J∈envKeys l ↔ ∃x∈l,J∈x.2.keys
 | []=>by simp [envKeys]
 | (K,o)::r=>by simp [envKeys,mem_envKeys (l:=r)]
theorem lk_in {α:Type} : ∀{l:List (Nat×α)} {K:Nat} {v:α},lk l K=some v→(K,v)∈l
 | [],K,v,h=>by simp [lk] at h
 | (J,u)::r,K,v,h=>by
   simp only [lk] at h
   cases hb:Nat.beq J K with
   | true=>rw [hb] at h;simp at h;have:=Nat.eq_of_beq_eq_true hb;subst this;subst h;simp
   | false=>rw [hb] at h;simp at h;exact List.mem_cons_of_mem _ (lk_in h)
theorem sel_in {α:Type} {l:List (Nat×α)} : ∀{ks:List Nat} {x:Nat×α},x∈sel ks l→x.1∈ks∧lk l x.1=some x.2
 | [],x,h=>by simp [sel] at h
 | k::ks,x,h=>by
   simp only [sel] at h
   cases hl:lk l k with
   | none=>rw [hl] at h;have:=sel_in (ks:=ks) h;exact ⟨by simp [this.1],this.2⟩
   | some v=>
     rw [hl] at h
     rcases List.mem_cons.1 h with rfl|h
     · exact ⟨by simp,hl⟩
     · have:=sel_in (ks:=ks) h;exact ⟨by simp [this.1],this.2⟩
theorem reach_congr {l m:List (Nat×VObj)} {Kp:List Nat} (hag : ∀K∈Kp,lk m K=lk l K) (hcl : ∀K∈Kp,∀o,lk l K=some o → ∀J∈o.c.keys,J∈Kp) : ∀(n:Nat) (ks:List Nat),(∀K∈ks,K∈Kp)→reach m n ks=reach l n ks ∧ ∀K∈reach l n ks,K∈Kp
 | 0,ks,h=>⟨rfl,h⟩
 | n+1,ks,h=>by
   have e:sel ks m=sel ks l:=sel_congr fun K hK=>hag K (h K hK)
   simp only [reach,e]
   have hj : ∀J∈objKeys (sel ks l),J∈Kp:=by
    intro J hJ
    obtain ⟨x,hx,hJ⟩:=mem_objKeys.1 hJ
    obtain ⟨h1,h2⟩:=sel_in hx
    exact hcl x.1 (h x.1 h1) x.2 h2 J hJ
   cases hk:objKeys (sel ks l) with
   | nil=>exact ⟨rfl,h⟩
   | cons j js=>
     dsimp only
     rw [hk] at hj
     refine reach_congr hag hcl n _ fun K hK => ?_
     rcases mem_dedup.1 hK with hK|hK
     · rcases List.mem_append.1 hK with hK|hK
       · exact h K hK
       · exact hj K hK
     · simp at hK
theorem part_congr {s t:St} {o:Op} (he : ∀x∈opTmps o,lk t.env x=lk s.env x) (ho : ∀K∈(s.part o).objs.map (·.1),lk t.objs K=lk s.objs K) (h1:subM ((s.part o).objs.map (·.1)) (envKeys (s.part o).env)=true) (h2:subM ((s.part o).objs.map (·.1)) (objKeys (s.part o).objs)=true):t.part o=s.part o:=by
 have e:sel (dedup (opTmps o) []) t.env=sel (dedup (opTmps o) []) s.env:=sel_congr fun k hk=>by
  rcases mem_dedup.1 hk with hk|hk
  · exact he k hk
  · simp at hk
 have h1':=subM_iff.1 h1
 have h2':=subM_iff.1 h2
 have hr:=reach_congr (l:=s.objs) (m:=t.objs) (Kp:=(s.part o).objs.map (·.1)) ho (fun K hK u hu J hJ=>h2' J (mem_objKeys.2 ?_)) 3 (dedup (envKeys (s.part o).env) []) (fun K hK=>by
  rcases mem_dedup.1 hK with hK|hK
  · exact h1' K hK
  · simp at hK)
 · simp only [St.part] at hr ⊢
   rw [e,hr.1]
   congr 1
   exact sel_congr fun K hK=>ho K (hr.2 K hK)
 · obtain ⟨x,hx,rfl⟩:=List.mem_map.1 hK
   have h3:=sel_in (ks:=reach s.objs 3 (dedup (envKeys (sel (dedup (opTmps o) []) s.env)) [])) (l:=s.objs) (x:=x) (by simpa [St.part] using hx)
   rw [h3.2] at hu
   obtain rfl:=Option.some.inj hu
   exact ⟨x,hx,hJ⟩
theorem lk_part_objs {s:St} {o:Op} {K:Nat} {u:VObj} (h:lk (s.part o).objs K=some u):lk s.objs K=some u:=(lk_sel _ _ _ _ h).1
theorem part_objs_at {s:St} {o:Op} {K:Nat} (h:K∈(s.part o).objs.map (·.1)):lk (s.part o).objs K=lk s.objs K:=by
 obtain ⟨x,hx,rfl⟩:=List.mem_map.1 h
 have:=sel_in (ks:=reach s.objs 3 (dedup (envKeys (sel (dedup (opTmps o) []) s.env)) [])) (l:=s.objs) (x:=x) (by simpa [St.part] using hx)
 simp only [St.part]
 exact lk_sel_mem _ _ _ this.1
theorem part_env_at {s:St} {o:Op} {x:Nat} (h:x∈opTmps o):lk (s.part o).env x=lk s.env x:=by
 simp only [St.part]
 exact lk_sel_mem _ _ _ (mem_dedup.2 (.inl h))
structure Eft (s:St) (d:Done) (dst:Option Nat) (M seen:List Nat) (e:Eff) (s':St):Prop where
 like:(s.join M dst e).like s'
 mm : ∀K∈M,K∈d.ment
 sn : ∀K∈seen,K∈M
 eo : ∀K o,lk e.objs K=some o→K∈M
 ec : ∀K o,lk e.objs K=some o → ∀J∈o.c.keys,J∈d.ment
 ks : ∀K,(K∈e.ka∨K∈kk e.ki∨K∈e.kr)→K∈M
 ev : ∀v,e.v=some v→(∀J∈v.keys,J∈d.ment)∨v∈d.more.vals
 sv : ∀t,dst=some t→e.v.isSome=true
 so : ∀K∈seen,∀o,lk s.objs K=some o → ∀J∈o.c.keys,J∈d.ment
 md : ∀K∈d.made,K∈d.ment
 fresh : ∀K∈d.made,lk s.objs K=none
 calm:d.calm=true→(∀K,K∉d.made→K∈M→K∈seen∧lk e.objs K=lk s.objs K) ∧ ∀K,(K∈e.ka∨K∈kk e.ki∨K∈e.kr)→K∈d.made
 cc:d.calm=true→e.calm=true
 hit:d.hit=false → ∀K o,lk s.objs K=some o→(e.calm=true∨K∉M)→anyDead e.dead o.c=false
 dk:e.ka=d.more.ka∧e.ki=d.more.ki∧e.kr=d.more.kr
 rr : ∀r∈d.more.rd,∃u,rdv s.objs r.1 r.2=some u∧u.c∈d.more.vals∧noUnd u.c=true
 wr : ∀l,d.more.wr=some l → ∀r,wrOk l r=true→r.1∈M→rdv e.objs r.1 r.2=rdv s.objs r.1 r.2
def Agree (l seen:List Nat) (b:AVal→Bool) (s t:St):Prop:=
 (∀x∈l,lk t.env x=(lk s.env x).map (killV b)) ∧ ∀K∈seen,lk t.objs K=lk s.objs K
theorem lk_join_env (s:St) (M:List Nat) (dst:Option Nat) (e:Eff) (t:Nat):lk (s.join M dst e).env t =
 if dst=some t∧e.v.isSome=true then e.v else (lk s.env t).map (killV e.dead):=by
 simp only [St.join,Eff.dead]
 cases dst with
 | none=>simp [lk_killIn]
 | some d=>
   cases hv:e.v with
   | none=>simp [lk_killIn]
   | some v=>
     simp only [lk_ins,lk_killIn]
     by_cases h:t=d
     · subst h;simp
     · rw [if_neg h,if_neg];rintro ⟨h1,_⟩;exact h (Option.some.inj h1).symm
theorem lk_join_objs {s:St} {M:List Nat} {dst:Option Nat} {e:Eff} (heo : ∀K o,lk e.objs K=some o→K∈M) (K:Nat) :
 lk (s.join M dst e).objs K=if K∈M then (lk e.objs K).map (fun o=>{ o with c:=killV e.dead o.c }) else (lk s.objs K).map (fun o=>{ o with c:=killV e.dead o.c }):=by
 have:=join_obj s M dst e heo K
 simp only [St.obj,Mix] at this
 rw [this]
 split <;> rfl
theorem join_like {s t:St} (h:s.like t) (M:List Nat) (dst:Option Nat) (e:Eff) (heo : ∀K o,lk e.objs K=some o→K∈M):(s.join M dst e).like (t.join M dst e):=
 ⟨fun k=>by rw [lk_join_env,lk_join_env,h.1],fun K=>by rw [lk_join_objs heo,lk_join_objs heo,h.2]⟩
end Go.VK
namespace Go.VK
open AVal
def mk2 {α β:Type} (a:α) (b:β):Option (α×β):=some (a,b)
def effOf (Φ:Ctx) (C:Oracle) (p:St) (o:Oper):Option Eff:=veffK Φ C p o some
theorem veffK_bind {Φ:Ctx} {C:Oracle} {p:St} {o:Oper} {R:Type} (k:Eff→Option R):veffK Φ C p o k=(effOf Φ C p o).bind k:=by
 unfold effOf veffK
 cases veff Φ p o with
 | some e=>rfl
 | none=>
   dsimp only
   cases o.op with
   | call c=>
     dsimp only
     cases vsend Φ p c with
     | none=>rfl
     | some x=>
       dsimp only
       cases x.cond with
       | false=>rfl
       | true=>
         simp only [cond_true]
         cases C x.f x.args x.objs with
         | none=>rfl
         | some q=>
           simp only [Option.bind_some]
           cases callEff Φ o x q.1 q.2 <;> rfl
   | _=>rfl
def doneOf (i:Nat) (s:St) (made M:List Nat) (e:Eff) (m:DX):Done:=
 { i,calm:=e.calm&&(subM made e.ka&&(subM made (kk e.ki)&&subM made e.kr)),made,ment:=M,hit:=hitIn (AVal.dead e.ka e.ki e.kr) M e.calm s.objs s.objs,more:=m }
def isExtract:Op→Bool|.extract (.tmp _) _=>true|_=>false
def mof (Φ:Ctx) (s:St) (o:Oper):List Nat:=keysMade Φ o++(s.part o.op).objs.map (·.1)
def okOp (Φ:Ctx) (s:St) (o:Oper) (e:Eff):Bool:=e.cond&&(okEff (s.part o.op) (mof Φ s o) e&&((o.dst.isNone||e.v.isSome)&&(keysMade Φ o).all fun K=>Nat.blt K passBase&&(s.obj K).isNone))
def plainQ (Φ:Ctx) (s:St) (o:Oper):Bool:=(lookQ Φ s o.op).isSome&&o.dst.isSome
theorem runOp_plain {R:Type} {Φ:Ctx} {C:Oracle} {o:Oper} {i:Nat} {s:St} {k:St→Done→Option R} (hx:isExtract o.op=false) (hp:plainQ Φ s o=false) :
 runOp Φ C o i s k=(effOf Φ C (s.part o.op) o).bind fun e=>
  bif okOp Φ s o e then k (s.join (mof Φ s o) o.dst e) (doneOf i s (keysMade Φ o) (mof Φ s o) e (moreOf Φ (s.part o.op) o e)) else none:=by
 rw [←veffK_bind]
 unfold runOp
 split
 · rename_i h;rw [h] at hx;simp [isExtract] at hx
 · split
   · rename_i h1 h2;simp [plainQ,h1,h2] at hp
   · rfl
def doneL (i:Nat) (q:List AVal×List (Nat×Option Nat)) (v:AVal):Done:={ i,calm:=true,made:=[],ment:=[],hit:=false,more:={ vals:=v::q.1,rd:=q.2 } }
theorem runOp_look {R:Type} {Φ:Ctx} {C:Oracle} {o:Oper} {i:Nat} {s:St} {k:St→Done→Option R} {q:List AVal×List (Nat×Option Nat)} {d:Nat} (hx:isExtract o.op=false) (hq:lookQ Φ s o.op=some q) (hd:o.dst=some d) :
 runOp Φ C o i s k=(calm Φ s o d).bind fun e=>bif e.cond&&e.o.isNone then k (s.set d e.v) (doneL i q e.v) else none:=by
 unfold runOp
 split
 · rename_i h;rw [h] at hx;simp [isExtract] at hx
 · rw [hq,hd]
   dsimp only
   cases calm Φ s o d <;> rfl
theorem plainQ_some {Φ:Ctx} {s:St} {o:Oper} (h:plainQ Φ s o=true) : ∃q d,lookQ Φ s o.op=some q∧o.dst=some d:=by
 simp only [plainQ,Bool.and_eq_true,Option.isSome_iff_exists] at h
 obtain ⟨⟨q,hq⟩,d,hd⟩:=h
 exact ⟨q,d,hq,hd⟩
theorem runOp_inv {R:Type} {Φ:Ctx} {C:Oracle} {o:Oper} {i:Nat} {s:St} {k:St→Done→Option R} {r:R} (h:runOp Φ C o i s k=some r) : ∃s' d,runOp Φ C o i s mk2=some (s',d)∧k s' d=some r:=by
 cases hx:isExtract o.op with
 | false=>
   cases hpl:plainQ Φ s o with
   | true=>
     obtain ⟨q,d,hq,hd⟩:=plainQ_some hpl
     rw [runOp_look hx hq hd] at h ⊢
     cases he:calm Φ s o d with
     | none=>rw [he] at h;simp at h
     | some e=>
       rw [he] at h
       simp only [Option.bind_some] at h ⊢
       cases hc:(e.cond&&e.o.isNone) with
       | false=>rw [hc] at h;simp at h
       | true=>rw [hc] at h;exact ⟨_,_,rfl,h⟩
   | false=>
   rw [runOp_plain hx hpl] at h ⊢
   cases he:effOf Φ C (s.part o.op) o with
   | none=>rw [he] at h;simp at h
   | some e=>
     rw [he] at h
     simp only [Option.bind_some] at h ⊢
     cases hc:okOp Φ s o e with
     | false=>rw [hc] at h;simp at h
     | true=>rw [hc] at h;exact ⟨_,_,rfl,h⟩
 | true=>
   unfold runOp at h ⊢
   split at h
   · rename_i t j ho
     split at h
     · rename_i vs d hv hd
       cases hb:(Nat.blt j vs.length&&noUnd (vs.getD j .und)) with
       | false=>rw [hb] at h;simp at h
       | true=>rw [hb] at h;exact ⟨_,_,rfl,h⟩
     · simp at h
   · rename_i hne
     cases ho:o.op with
     | extract x j=>
       cases x with
       | tmp t=>exact absurd ho (hne t j)
       | _=>rw [ho] at hx;simp [isExtract] at hx
     | _=>rw [ho] at hx;simp [isExtract] at hx
theorem skipOp_inv {R:Type} {o:Oper} {i:Nat} {s:St} {k:St→Done→Option R} {r:R} (h:skipOp o i s k=some r) : ∃s' d,skipOp o i s mk2=some (s',d)∧k s' d=some r:=⟨_,_,rfl,h⟩
theorem vop_inv {R:Type} {Φ:Ctx} {C:Oracle} {ops:Array Oper} {o:Oper} {i:Nat} {s:St} {k:St→Done→Option R} {r:R} (h:vop Φ C ops o i s k=some r) : ∃s' d,vop Φ C ops o i s mk2=some (s',d)∧k s' d=some r:=by
 unfold vop at h ⊢
 cases hg:o.guard with
 | none=>rw [hg] at h;exact runOp_inv h
 | some jw=>
   obtain ⟨j,want⟩:=jw
   rw [hg] at h
   dsimp only at h ⊢
   cases hd:dstOf ops j with
   | none=>rw [hd] at h;simp at h
   | some g=>
     rw [hd] at h
     dsimp only at h ⊢
     split at h
     · rename_i b hb
       cases b <;> cases want <;> simp only [cond_true,cond_false] at h ⊢ <;> first|exact runOp_inv h|exact skipOp_inv h
     · exact skipOp_inv h
     · simp at h
theorem rdv_congr {l m:List (Nat×VObj)} {K:Nat} (h:lk m K=lk l K) (off:Option Nat):rdv m K off=rdv l K off:=by simp only [rdv,h]
theorem killVs_at (b:AVal→Bool) : ∀(cs:List AVal) (i:Nat),(killVs b cs)[i]? = (cs[i]?).map (killV b)
 | [],i=>by simp [killVs]
 | c::cs,0=>by simp [killVs]
 | c::cs,i+1=>by simp [killVs,killVs_at b cs i]
theorem skel_kill (b:AVal→Bool) (x:AVal):noUnd (skel1 (killV b x))=true∨anyDead b (skel1 x)=false→skel1 (killV b x)=skel1 x:=by
 cases x with
 | ptr K p off=>simp only [killV];cases hk:b (.ptr K p off) <;> simp [skel1,noUnd,anyDead,hk]
 | ref K p=>simp only [killV];cases hk:b (.ref K p) <;> simp [skel1,noUnd,anyDead,hk]
 | clo f cs=>simp only [killV];cases hk:b (.clo f cs) <;> simp [skel1,noUnd,anyDead,hk]
 | _=>intro _;simp [killV,skel1]
theorem agg_kill (b:AVal→Bool) (x:AVal):aggQ (killV b x)=aggQ x:=by
 cases x with
 | ptr K p off=>simp only [killV];cases hk:b (.ptr K p off) <;> rfl
 | ref K p=>simp only [killV];cases hk:b (.ref K p) <;> rfl
 | clo f cs=>simp only [killV];cases hk:b (.clo f cs) <;> rfl
 | _=>simp [killV,aggQ]
theorem rdv_none {l:List (Nat×VObj)} {K:Nat} {o:VObj} (h:lk l K=some o):rdv l K none=bif aggQ o.c then none else some { box:=o.box,c:=skel1 o.c }:=by
 simp only [rdv,h]
 cases o.c <;> rfl
theorem rdv_some {l:List (Nat×VObj)} {K i:Nat} {bx:Bool} {cs:List AVal} (h:lk l K=some { box:=bx,c:=.agg cs }):rdv l K (some i)=(cs[i]?).map fun u=>{ box:=bx,c:=skel1 u }:=by
 simp only [rdv,h]
 cases cs[i]? <;> rfl
theorem rdv_flat {l:List (Nat×VObj)} {K i:Nat} {o:VObj} (h:lk l K=some o) (ha:aggQ o.c=false):rdv l K (some i)=none:=by
 simp only [rdv,h]
 cases hc:o.c <;> simp_all [aggQ]
theorem rdv_away {l:List (Nat×VObj)} {K:Nat} (h:lk l K=none) (off:Option Nat):rdv l K off=none:=by simp only [rdv,h]
theorem rdv_kill {l m:List (Nat×VObj)} {K:Nat} {b:AVal→Bool} (h:lk m K=(lk l K).map fun o=>{ o with c:=killV b o.c }) (off:Option Nat) (hn : ∀u,rdv m K off=some u→noUnd u.c=true) :
 ∀u,rdv m K off=some u→rdv l K off=some u:=by
 intro u hu
 have hnu:=hn u hu
 cases ho:lk l K with
 | none=>rw [ho] at h;rw [rdv_away h] at hu;simp at hu
 | some o=>
   rw [ho] at h
   simp only [Option.map_some] at h
   obtain ⟨bx,c⟩:=o
   cases off with
   | none=>
     rw [rdv_none h] at hu
     rw [rdv_none ho]
     simp only [agg_kill] at hu ⊢
     cases hc:aggQ c with
     | true=>rw [hc] at hu;simp at hu
     | false=>
       rw [hc] at hu
       simp only [cond_false,Option.some.injEq] at hu ⊢
       rw [←hu] at hnu ⊢
       rw [skel_kill b c (.inl hnu)]
   | some i=>
     cases hc:aggQ c with
     | false=>
       rw [rdv_flat h (by simp only [agg_kill,hc])] at hu
       simp at hu
     | true=>
       cases c with
       | agg cs=>
         simp only [killV] at h
         rw [rdv_some h,killVs_at] at hu
         rw [rdv_some ho]
         cases hx:cs[i]? with
         | none=>rw [hx] at hu;simp at hu
         | some x=>
           rw [hx] at hu
           simp only [Option.map_some,Option.some.injEq] at hu ⊢
           rw [←hu] at hnu ⊢
           rw [skel_kill b x (.inl hnu)]
       | _=>simp [aggQ] at hc
theorem rdv_live {l m:List (Nat×VObj)} {K:Nat} {b:AVal→Bool} (h:lk m K=(lk l K).map fun o=>{ o with c:=killV b o.c }) (off:Option Nat) {u:VObj} (hu:rdv l K off=some u) (hd:anyDead b u.c=false):rdv m K off=some u:=by
 cases ho:lk l K with
 | none=>rw [rdv_away ho] at hu;simp at hu
 | some o=>
   rw [ho] at h
   simp only [Option.map_some] at h
   obtain ⟨bx,c⟩:=o
   cases off with
   | none=>
     rw [rdv_none ho] at hu
     rw [rdv_none h]
     simp only [agg_kill] at hu ⊢
     cases hc:aggQ c with
     | true=>rw [hc] at hu;simp at hu
     | false=>
       rw [hc] at hu
       simp only [cond_false,Option.some.injEq] at hu ⊢
       rw [←hu] at hd ⊢
       rw [skel_kill b c (.inr hd)]
   | some i=>
     cases hc:aggQ c with
     | false=>
       rw [rdv_flat ho hc] at hu
       simp at hu
     | true=>
       cases c with
       | agg cs=>
         simp only [killV] at h
         rw [rdv_some h,killVs_at]
         rw [rdv_some ho] at hu
         cases hx:cs[i]? with
         | none=>rw [hx] at hu;simp at hu
         | some x=>
           rw [hx] at hu
           simp only [Option.map_some,Option.some.injEq] at hu ⊢
           rw [←hu] at hd ⊢
           rw [skel_kill b x (.inr hd)]
       | _=>simp [aggQ] at hc
theorem wrOk_append {a b:List (Nat×Option Nat)} {r:Nat×Option Nat}:wrOk (a++b) r=true↔wrOk a r=true∧wrOk b r=true:=by simp [wrOk,List.all_append]
theorem wrOk_mem {l:List (Nat×Option Nat)} {r z:Nat×Option Nat} (h:wrOk l r=true) (hz:z∈l) (hk:z.1=r.1) : ∃a b,z.2=some a∧r.2=some b∧a≠b:=by
 have:=List.all_eq_true.1 h z hz
 rw [hk] at this
 simp only [Nat.beq_refl,Bool.not_true,Bool.false_or] at this
 split at this
 · rename_i a b h1 h2
   refine ⟨a,b,h1,h2,?_⟩
   rintro rfl
   simp at this
 · simp at this
theorem skel_put (c:AVal) (i:Nat) (p:List Nat) (x:AVal):skel1 (c.put (i::p) x)=skel1 c∧aggQ (c.put (i::p) x)=aggQ c:=by
 cases c <;> simp [AVal.put,skel1,aggQ]
theorem rdv_put {l m:List (Nat×VObj)} {K i b:Nat} {p:List Nat} {x:AVal} {o:VObj} (ho:lk l K=some o) (hm:lk m K=some { o with c:=o.c.put (i::p) x }) (h:i≠b):rdv m K (some b)=rdv l K (some b):=by
 obtain ⟨bx,c⟩:=o
 cases hc:aggQ c with
 | false=>rw [rdv_flat ho hc,rdv_flat hm (by rw [(skel_put c i p x).2];exact hc)]
 | true=>
   cases c with
   | agg cs=>
     simp only [AVal.put] at hm
     rw [rdv_some ho,rdv_some hm,List.getElem?_set,if_neg h]
   | _=>simp [aggQ] at hc
theorem rdv_deep {l m:List (Nat×VObj)} {K i j:Nat} {p:List Nat} {x:AVal} {o:VObj} (ho:lk l K=some o) (hm:lk m K=some { o with c:=o.c.put (i::j::p) x }) (off:Option Nat):rdv m K off=rdv l K off:=by
 cases off with
 | none=>rw [rdv_none ho,rdv_none hm,(skel_put o.c i (j::p) x).1,(skel_put o.c i (j::p) x).2]
 | some b=>
   by_cases h:i=b
   · subst h
     obtain ⟨bx,c⟩:=o
     cases hc:aggQ c with
     | false=>rw [rdv_flat ho hc,rdv_flat hm (by rw [(skel_put c i (j::p) x).2];exact hc)]
     | true=>
       cases c with
       | agg cs=>
         simp only [AVal.put] at hm
         rw [rdv_some ho,rdv_some hm,List.getElem?_set,if_pos rfl]
         by_cases hl:i<cs.length
         · rw [if_pos hl,List.getElem?_eq_getElem hl]
           simp only [Option.map_some,Option.some.injEq,VObj.mk.injEq,true_and]
           rw [(skel_put _ j p x).1]
           simp [List.getD,hl]
         · rw [if_neg hl,List.getElem?_eq_none (by omega)]
       | _=>simp [aggQ] at hc
   · exact rdv_put ho hm h
theorem dig_rd {s:St} {J i:Nat} {q:List Nat} {o:VObj} {y:Nat×List Nat} (ho:s.obj J=some o) {r:Nat×Option Nat} (hr:wrOk (digs1 (.ref J (i::q))) r=true) (m:List (Nat×VObj)) (hm:m=((s.killAt y.1 y.2).setObj J { o with c:=o.c.put (i::q) .und }).objs):rdv m r.1 r.2=rdv s.objs r.1 r.2:=by
 subst hm
 by_cases hJ:r.1=J
 · cases q with
   | nil=>
     obtain ⟨a,b,h1,h2,h3⟩:=wrOk_mem hr (z:=(J,some i)) (by simp [digs1]) hJ.symm
     simp only [Option.some.injEq] at h1;subst h1
     rw [h2,hJ]
     exact rdv_put (p:=[]) (x:=.und) ho (by simp only [St.setObj,St.killAt,lk_ins,if_true]) h3
   | cons j q=>
     rw [hJ]
     exact rdv_deep (i:=i) (j:=j) (p:=q) (x:=.und) ho (by simp only [St.setObj,St.killAt,lk_ins,if_true]) _
 · exact rdv_congr (by simp only [St.setObj,St.killAt,lk_ins];rw [if_neg hJ]) _
theorem take1_rd {s s1:St} {x v:AVal} (h:s.take x=some (v,s1)) (hx:aggQ x=false) {r:Nat×Option Nat} (hr:wrOk (digs1 x) r=true):rdv s1.objs r.1 r.2=rdv s.objs r.1 r.2:=by
 cases x with
 | ref J p=>
   unfold St.take at h
   cases hb:Nat.ble passBase J with
   | true=>rw [hb] at h;simp only [cond_true,Option.some.injEq,Prod.mk.injEq] at h;rw [←h.2]
   | false=>
     rw [hb] at h
     simp only [cond_false] at h
     cases p with
     | nil=>
       have hJ:r.1≠J:=fun he=>by
        obtain ⟨a,b,h1,_⟩:=wrOk_mem hr (z:=(J,none)) (by simp [digs1]) he.symm
        simp at h1
       cases ho:s.obj J with
       | none=>rw [ho] at h;simp at h
       | some o=>
         rw [ho] at h
         dsimp only at h
         cases hbx:o.box with
         | true=>
           rw [hbx] at h
           simp only [cond_true] at h
           cases hc:(o.c.okp [] && !(aggQ (o.c.get []))) with
           | false=>rw [hc] at h;simp at h
           | true=>
             rw [hc] at h
             simp only [cond_true,Option.some.injEq,Prod.mk.injEq] at h
             rw [←h.2]
             exact rdv_congr (by simp only [St.setObj,St.killAt,lk_ins];rw [if_neg hJ]) _
         | false=>
           rw [hbx] at h
           simp only [cond_false,Option.some.injEq,Prod.mk.injEq] at h
           rw [←h.2]
           exact rdv_congr (by simp only [St.drop,lk_del];rw [if_neg hJ]) _
     | cons i q=>
       cases ho:s.obj J with
       | none=>rw [ho] at h;simp at h
       | some o=>
         rw [ho] at h
         dsimp only at h
         cases hc:(o.c.okp (i::q) && !(aggQ (o.c.get (i::q)))) with
         | false=>rw [hc] at h;simp at h
         | true=>
           rw [hc] at h
           simp only [cond_true,Option.some.injEq,Prod.mk.injEq] at h
           rw [←h.2]
           exact dig_rd (y:=(J,bif o.box then i::q else [])) ho hr _ rfl
 | agg cs=>simp [aggQ] at hx
 | _=>simp only [St.take,Option.some.injEq,Prod.mk.injEq,reduceCtorEq] at h <;> (rw [←h.2])
theorem takeL_rd : ∀{xs vs:List AVal} {s s1:St},s.takeL xs=some (vs,s1)→noAgg xs=true → ∀{r:Nat×Option Nat},wrOk (digsL xs) r=true→rdv s1.objs r.1 r.2=rdv s.objs r.1 r.2∧vs.length=xs.length
 | [],vs,s,s1,h,_,r,_=>by simp only [St.takeL,Option.some.injEq,Prod.mk.injEq] at h;rw [←h.2,←h.1];exact ⟨rfl,rfl⟩
 | x::xs,vs,s,s1,h,hn,r,hr=>by
   simp only [noAgg,Bool.and_eq_true,Bool.not_eq_true'] at hn
   simp only [digsL,wrOk_append] at hr
   simp only [St.takeL] at h
   cases h1:s.take x with
   | none=>rw [h1] at h;simp at h
   | some q=>
     obtain ⟨v,s2⟩:=q
     rw [h1] at h
     dsimp only at h
     cases h2:s2.takeL xs with
     | none=>rw [h2] at h;simp at h
     | some q=>
       obtain ⟨ws,s3⟩:=q
       rw [h2] at h
       simp only [Option.some.injEq,Prod.mk.injEq] at h
       obtain ⟨rfl,rfl⟩:=h
       obtain ⟨h3,h4⟩:=takeL_rd h2 hn.2 hr.2
       exact ⟨h3.trans (take1_rd h1 hn.1 hr.1),by simp [h4]⟩
theorem takeV_rd {s s1:St} {x v:AVal} {l:List (Nat×Option Nat)} (h:s.take x=some (v,s1)) (hl:digsV x=some l) {r:Nat×Option Nat} (hr:wrOk l r=true):rdv s1.objs r.1 r.2=rdv s.objs r.1 r.2:=by
 cases x with
 | agg cs=>
   simp only [digsV] at hl
   cases hn:noAgg cs with
   | false=>rw [hn] at hl;simp at hl
   | true=>
     rw [hn] at hl
     simp only [cond_true,Option.some.injEq] at hl;subst hl
     simp only [St.take] at h
     cases h2:s.takeL cs with
     | none=>rw [h2] at h;simp at h
     | some q=>
       obtain ⟨ws,s3⟩:=q
       rw [h2] at h
       dsimp only at h
       cases h3:noAgg ws with
       | false=>rw [h3] at h;simp at h
       | true=>
         rw [h3] at h
         simp only [cond_true,Option.some.injEq,Prod.mk.injEq] at h
         rw [←h.2]
         exact (takeL_rd h2 hn hr).1
 | _=>
   simp only [digsV,Option.some.injEq] at hl
   subst hl
   exact take1_rd h rfl hr
theorem setMany_at : ∀(vs cs:List AVal) (off b:Nat),(∀j,j<vs.length→off+j≠b)→(setMany cs off vs)[b]? = cs[b]?
 | [],cs,off,b,_=>rfl
 | v::vs,cs,off,b,h=>by
   simp only [setMany]
   rw [setMany_at vs _ _ b fun j hj=>by have:=h (j+1) (by simpa using hj);omega]
   rw [List.getElem?_set]
   have:=h 0 (by simp)
   rw [if_neg (by omega)]
theorem take_noAgg {s s1:St} {x v:AVal} (h:s.take x=some (v,s1)) (hx:aggQ x=false) (hw:wideQ s x=false):aggQ v=false:=by
 cases x with
 | ref J p=>
   unfold St.take at h
   cases hb:Nat.ble passBase J with
   | true=>rw [hb] at h;simp only [cond_true,Option.some.injEq,Prod.mk.injEq] at h;rw [←h.1];rfl
   | false=>
     rw [hb] at h
     simp only [cond_false] at h
     cases p with
     | nil=>
       cases ho:s.obj J with
       | none=>rw [ho] at h;simp at h
       | some o=>
         rw [ho] at h
         simp only [wideQ,ho] at hw
         dsimp only at h
         cases hbx:o.box with
         | true=>
           rw [hbx] at h
           simp only [cond_true] at h
           cases hc:(o.c.okp [] && !(aggQ (o.c.get []))) with
           | false=>rw [hc] at h;simp at h
           | true=>
             rw [hc] at h
             simp only [cond_true,Option.some.injEq,Prod.mk.injEq] at h
             rw [←h.1];exact hw
         | false=>
           rw [hbx] at h
           simp only [cond_false,Option.some.injEq,Prod.mk.injEq] at h
           rw [←h.1];exact hw
     | cons i q=>
       cases ho:s.obj J with
       | none=>rw [ho] at h;simp at h
       | some o=>
         rw [ho] at h
         dsimp only at h
         cases hc:(o.c.okp (i::q) && !(aggQ (o.c.get (i::q)))) with
         | false=>rw [hc] at h;simp at h
         | true=>
           rw [hc] at h
           simp only [cond_true,Option.some.injEq,Prod.mk.injEq] at h
           simp only [Bool.and_eq_true,Bool.not_eq_true'] at hc
           rw [←h.1];exact hc.2
 | agg cs=>simp [aggQ] at hx
 | _=>simp only [St.take,Option.some.injEq,Prod.mk.injEq,reduceCtorEq] at h <;> (rw [←h.1];rfl)
theorem storeAt_rd {s s1:St} {K:Nat} {p:List Nat} {off:Option Nat} {many:Bool} {x:AVal} {l:List (Nat×Option Nat)} (hw:wideQ s x=false) (h:storeAt s K p off many x=some (true,s1)) (hl:digsV x=some l)
 {r:Nat×Option Nat} (hr:wrOk (tgtOf K p off x.cells.length++l) r=true):rdv s1.objs r.1 r.2=rdv s.objs r.1 r.2:=by
 obtain ⟨hr1,hr2⟩:=wrOk_append.1 hr
 unfold storeAt at h
 cases ht:s.take x with
 | none=>rw [ht] at h;simp at h
 | some q=>
   obtain ⟨v,s2⟩:=q
   rw [ht] at h
   dsimp only at h
   have h0:=takeV_rd ht hl hr2
   cases ho:s2.obj K with
   | none=>rw [ho] at h;simp at h
   | some o=>
     rw [ho] at h
     dsimp only at h
     cases hq:(o.c.thru p && !(pureV v)) with
     | true=>rw [hq] at h;simp at h
     | false=>
       rw [hq] at h
       simp only [cond_false] at h
       have hK:r.1≠K→rdv s1.objs r.1 r.2=rdv s.objs r.1 r.2:=by
        intro hne
        rw [←h0]
        refine rdv_congr ?_ _
        cases hmo:(many||off.isSome) with
        | true=>rw [hmo] at h;simp only [cond_true,Option.some.injEq,Prod.mk.injEq] at h;rw [←h.2];simp only [St.setObj,St.killAt,lk_ins];rw [if_neg hne]
        | false=>rw [hmo] at h;simp only [cond_false,Option.some.injEq,Prod.mk.injEq] at h;rw [←h.2];simp only [St.setObj,St.killAt,lk_ins];rw [if_neg hne]
       by_cases hne:r.1=K
       · cases p with
         | cons i p=>
           rw [←h0]
           have hex : ∃y,lk s1.objs K=some { o with c:=o.c.put (i::p) y }:=by
            cases hmo:(many||off.isSome) with
            | true=>rw [hmo] at h;simp only [cond_true,Option.some.injEq,Prod.mk.injEq] at h;rw [←h.2];exact ⟨.agg (setMany (o.c.get (i::p)).cells (off.getD 0) v.cells),by simp only [St.setObj,St.killAt,lk_ins,if_true]⟩
            | false=>rw [hmo] at h;simp only [cond_false,Option.some.injEq,Prod.mk.injEq] at h;rw [←h.2];exact ⟨v,by simp only [St.setObj,St.killAt,lk_ins,if_true]⟩
           obtain ⟨y,hy⟩:=hex
           rw [hne]
           cases p with
           | nil=>
             obtain ⟨a,b,h1,h2,h3⟩:=wrOk_mem hr1 (z:=(K,some i)) (by simp [tgtOf]) hne.symm
             simp only [Option.some.injEq] at h1;subst h1
             rw [h2]
             exact rdv_put ho hy h3
           | cons j q=>exact rdv_deep ho hy _
         | nil=>
           cases off with
           | none=>
             obtain ⟨_,_,h1,_⟩:=wrOk_mem hr1 (z:=(K,none)) (by simp [tgtOf]) hne.symm
             simp at h1
           | some c=>
             simp only [tgtOf] at hr1
             simp only [Option.isSome_some,Bool.or_true,cond_true,Option.some.injEq,Prod.mk.injEq,Option.getD_some,AVal.get,AVal.put] at h
             obtain ⟨hc,rfl⟩:=h
             simp only [Bool.and_eq_true] at hc
             have hagg:=hc.2.1
             obtain ⟨bx,oc⟩:=o
             cases oc with
             | agg cs=>
               rw [hne] at h0 ⊢
               rw [←h0]
               have hlen:v.cells.length=x.cells.length:=by
                cases x with
                | agg ys=>
                  simp only [St.take] at ht
                  cases h2:s.takeL ys with
                  | none=>rw [h2] at ht;simp at ht
                  | some q=>
                    obtain ⟨ws,s3⟩:=q
                    rw [h2] at ht
                    dsimp only at ht
                    cases h3:noAgg ws with
                    | false=>rw [h3] at ht;simp at ht
                    | true=>
                      rw [h3] at ht
                      simp only [cond_true,Option.some.injEq,Prod.mk.injEq] at ht
                      rw [←ht.1]
                      simp only [AVal.cells]
                      simp only [digsV] at hl
                      cases hn:noAgg ys with
                      | false=>rw [hn] at hl;simp at hl
                      | true=>
                        rw [hn] at hl
                        simp only [cond_true,Option.some.injEq] at hl;subst hl
                        exact (takeL_rd h2 hn hr2).2
                | _=>
                  have hv:aggQ v=false:=take_noAgg ht rfl hw
                  cases v <;> simp_all [aggQ,AVal.cells]
               have ho':lk s2.objs K=some { box:=bx,c:=.agg cs }:=ho
               cases hoff:r.2 with
               | none=>
                 rw [rdv_none ho',rdv_none (o:={ box:=bx,c:=.agg (setMany cs c v.cells) }) (by simp only [St.setObj,St.killAt,lk_ins,if_true];cases v <;> simp_all [AVal.cells])]
                 rfl
               | some b=>
                 have e:(setMany cs c v.cells)[b]? = cs[b]? := setMany_at _ _ _ _ fun j hj he=>by
                  obtain ⟨a,b',h1,h2,h3⟩:=wrOk_mem hr1 (z:=(K,some (c+j))) (List.mem_map.2 ⟨j,List.mem_range.2 (by rw [←hlen];exact hj),rfl⟩) hne.symm
                  rw [hoff] at h2
                  simp only [Option.some.injEq] at h1 h2
                  exact h3 (by rw [←h1,←h2,he])
                 rw [rdv_some ho',rdv_some (bx:=bx) (cs:=setMany cs c v.cells) (by simp only [St.setObj,St.killAt,lk_ins,if_true];cases v <;> simp_all [AVal.cells]),e]
             | _=>simp [aggQ] at hagg
       · exact hK hne
theorem digC_rd {s s1:St} {J:Nat} {p:List Nat} {b:Bool} {c:AVal} (h:s.digC J p=some (b,c,s1)) {r:Nat×Option Nat} (hr:wrOk (digs1 (.ref J p)) r=true):rdv s1.objs r.1 r.2=rdv s.objs r.1 r.2:=by
 unfold St.digC at h
 cases ho:s.obj J with
 | none=>rw [ho] at h;simp at h
 | some o=>
   rw [ho] at h
   simp only [Option.some.injEq,Prod.mk.injEq] at h
   rw [←h.2.2]
   cases p with
   | nil=>
     have hJ:r.1≠J:=fun he=>by
      obtain ⟨a,b,h1,_⟩:=wrOk_mem hr (z:=(J,none)) (by simp [digs1]) he.symm
      simp at h1
     exact rdv_congr (by simp only [St.setObj,St.killAt,lk_ins];rw [if_neg hJ]) _
   | cons i q=>exact dig_rd (y:=(J,bif o.box then i::q else [])) ho hr _ rfl
theorem pull_rd {s s1:St} {J:Nat} {p:List Nat} {b:Bool} {c:AVal} (h:s.pull J p=some (b,c,s1)) {r:Nat×Option Nat} (hr:wrOk (digs1 (.ref J p)) r=true):rdv s1.objs r.1 r.2=rdv s.objs r.1 r.2:=by
 cases p with
 | nil=>
   simp only [St.pull] at h
   cases hb:Nat.ble passBase J with
   | true=>rw [hb] at h;exact digC_rd h hr
   | false=>
     rw [hb] at h
     simp only [cond_false] at h
     cases ht:s.take (.ref J []) with
     | none=>rw [ht] at h;simp at h
     | some q=>
       rw [ht] at h
       simp only [Option.some.injEq,Prod.mk.injEq] at h
       rw [←h.2.2]
       exact take1_rd (x:=.ref J []) (v:=q.1) (s1:=q.2) (by rw [ht]) rfl hr
 | cons i q=>exact digC_rd h hr
theorem base_rd {s s1:St} {x:AVal} {sz:Nat} {b:Bool} {xs:List AVal} (h:s.base x sz=some (b,xs,s1)) {r:Nat×Option Nat} (hr:wrOk (digs1 x) r=true):rdv s1.objs r.1 r.2=rdv s.objs r.1 r.2:=by
 cases x with
 | ref K p=>
   simp only [St.base] at h
   cases hp:s.pull K p with
   | none=>rw [hp] at h;simp at h
   | some q=>
     obtain ⟨b',c,s2⟩:=q
     rw [hp] at h
     simp only [Option.some.injEq,Prod.mk.injEq] at h
     rw [←h.2.2]
     exact pull_rd hp hr
 | ro t z xs=>
   cases t with
   | false=>simp [St.base] at h
   | true=>
     simp only [St.base] at h
     cases hz:Nat.beq z sz with
     | false=>rw [hz] at h;simp at h
     | true=>rw [hz] at h;simp only [cond_true,Option.some.injEq,Prod.mk.injEq] at h;rw [←h.2.2]
 | nils z=>
   simp only [St.base] at h
   cases hz:Nat.beq z sz with
   | false=>rw [hz] at h;simp at h
   | true=>rw [hz] at h;simp only [cond_true,Option.some.injEq,Prod.mk.injEq] at h;rw [←h.2.2]
 | _=>simp [St.base] at h
theorem more_rd {s s1:St} {x:AVal} {sz:Nat} {b:Bool} {xs:List AVal} (h:s.more x sz=some (b,xs,s1)) {r:Nat×Option Nat} (hr:wrOk (digs1 x) r=true):rdv s1.objs r.1 r.2=rdv s.objs r.1 r.2:=by
 cases x with
 | ref K p=>
   cases p with
   | nil=>
     simp only [St.more] at h
     cases ht:s.take (.ref K []) with
     | none=>rw [ht] at h;simp at h
     | some q=>
       rw [ht] at h
       simp only [Option.some.injEq,Prod.mk.injEq] at h
       rw [←h.2.2]
       exact take1_rd (x:=.ref K []) (v:=q.1) (s1:=q.2) (by rw [ht]) rfl hr
   | cons i q=>
     simp only [St.more] at h
     cases ho:s.obj K with
     | none=>rw [ho] at h;simp at h
     | some o=>
       rw [ho] at h
       simp only [Option.some.injEq,Prod.mk.injEq] at h
       rw [←h.2.2]
 | ro t z xs=>
   simp only [St.more] at h
   cases hz:Nat.beq z sz with
   | false=>rw [hz] at h;simp at h
   | true=>rw [hz] at h;simp only [cond_true,Option.some.injEq,Prod.mk.injEq] at h;rw [←h.2.2]
 | nils z=>simp only [St.more,Option.some.injEq,Prod.mk.injEq] at h;rw [←h.2.2]
 | str z=>
   simp only [St.more] at h
   cases hz:Nat.beq sz 1 with
   | false=>rw [hz] at h;simp at h
   | true=>rw [hz] at h;simp only [cond_true,Option.some.injEq,Prod.mk.injEq] at h;rw [←h.2.2]
 | _=>simp [St.more] at h
end Go.VK
namespace Go.VK
open AVal
theorem dead_nil (v:AVal):AVal.dead [] [] [] v=false:=by simp [AVal.dead]
theorem anyDead_nil (v:AVal):anyDead (AVal.dead [] [] []) v=false:=by
 cases h:anyDead (AVal.dead [] [] []) v with
 | false=>rfl
 | true=>
   obtain ⟨K,hK,_⟩:=anyDead_keys (X:=fun _=>False) (fun v h=>by rw [dead_nil] at h;simp at h) v h
   exact hK.elim
theorem kill_nil (v:AVal):killV (AVal.dead [] [] []) v=v:=anyDead_id _ v (anyDead_nil v)
def pureE (v:AVal):Eff:={ cond:=true,calm:=true,v:=some v,objs:=[] }
def pureS (s:St) (dst:Option Nat) (v:AVal):St:=match dst with|some d=>s.set d v|none=>s
theorem pureS_like (s:St) (dst:Option Nat) (v:AVal):(s.join [] dst (pureE v)).like (pureS s dst v):=by
 refine ⟨fun k => ?_,fun K => ?_⟩
 · rw [lk_join_env]
   have hk : ∀x:Option AVal,x.map (killV (pureE v).dead)=x:=fun x=>by
    cases x with
    | none=>rfl
    | some u=>simp [Eff.dead,pureE,kill_nil]
   rw [hk]
   cases dst with
   | none=>simp [pureS]
   | some d=>
     simp only [pureS,St.set,lk_ins]
     by_cases h:k=d
     · subst h;simp [pureE]
     · rw [if_neg h];exact (if_neg (by rintro ⟨h1,_⟩;exact h (Option.some.inj h1).symm)).symm
 · rw [lk_join_objs (fun K o h=>by simp [pureE,lk] at h)]
   have:lk (pureS s dst v).objs K=lk s.objs K:=by cases dst <;> rfl
   rw [this]
   simp only [List.not_mem_nil,if_false]
   cases lk s.objs K with
   | none=>rfl
   | some o=>simp [Eff.dead,pureE,kill_nil]
theorem Eft.pure (s:St) (dst:Option Nat) (v:AVal) (i:Nat) (m:List Nat) (x:List AVal) (rd:List (Nat×Option Nat)) (hv:(∀J∈v.keys,J∈m)∨v∈x) (hr : ∀r∈rd,∃u,rdv s.objs r.1 r.2=some u∧u.c∈x∧noUnd u.c=true) :
 Eft s { i,calm:=true,made:=[],ment:=m,hit:=false,more:={ vals:=x,rd:=rd } } dst [] [] (pureE v) (pureS s dst v):=by
 refine ⟨pureS_like s dst v,by simp,by simp,?_,?_,?_,?_,?_,by simp,by simp,by simp,?_,fun _=>rfl,?_,⟨rfl,rfl,rfl⟩,hr,?_⟩
 · intro K o h;simp [pureE,lk] at h
 · intro K o h;simp [pureE,lk] at h
 · intro K h;simp [pureE,kk] at h
 · intro u hu;simp only [pureE,Option.some.injEq] at hu;subst hu;exact hv
 · intro t _;rfl
 · intro _;exact ⟨fun K _ h=>by simp at h,fun K h=>by simp [pureE,kk] at h⟩
 · intro _ K o _ _;exact anyDead_nil _
 · intro l hl;simp at hl
theorem Eft.base {s u s':St} {d:Done} {dst:Option Nat} {M seen:List Nat} {e:Eff} (h:Eft s d dst M seen e s') (hl:s.like u):Eft u d dst M seen e s':=
 ⟨((join_like hl M dst e h.eo).symm).trans h.like,h.mm,h.sn,h.eo,h.ec,h.ks,h.ev,h.sv,fun K hK o ho=>h.so K hK o (by rw [←hl.2];exact ho),h.md,fun K hK=>by rw [hl.2];exact h.fresh K hK,
  fun hc=>⟨fun K h1 h2=>by rw [hl.2];exact (h.calm hc).1 K h1 h2,(h.calm hc).2⟩,h.cc,fun hh K o ho=>h.hit hh K o (by rw [←hl.2];exact ho),h.dk,fun r hr=>by rw [rdv_congr (hl.2 r.1)];exact h.rr r hr,fun l h1 r h2 h3=>by rw [rdv_congr (hl.2 r.1)];exact h.wr l h1 r h2 h3⟩
structure Stp (step:St→Option (St×Done)) (l:List Nat) (dst:Option Nat) (s:St) (d:Done) (s':St):Prop where
 ex : ∃M seen e,Eft s d dst M seen e s' ∧ ∀t b,(∀v:AVal,((∀J∈v.keys,J∈d.ment)∨v∈d.more.vals)→anyDead b v=false)→(∀r∈d.more.rd,rdv t.objs r.1 r.2=rdv s.objs r.1 r.2)→(Agree l seen b s t∨Agree l seen b t s)→(∀K∈d.made,lk t.objs K=none) →
  ∃t' d',step t=some (t',d')∧d'.i=d.i∧d'.calm=d.calm∧d'.made=d.made∧d'.ment=d.ment∧d'.more=d.more∧Eft t d' dst M seen e t' ∧
   ((∀K o,lk t.objs K=some o→(e.calm=true∨K∉M)→anyDead e.dead o.c=false)→d'.hit=false)
theorem Agree.seen {l seen:List Nat} {b:AVal→Bool} {s t:St} (h:Agree l seen b s t∨Agree l seen b t s) (K:Nat) (hK:K∈seen):lk t.objs K=lk s.objs K:=by
 rcases h with h|h
 · exact h.2 K hK
 · exact (h.2 K hK).symm
theorem okEff_iff {p:St} {M:List Nat} {e:Eff} (h:okEff p M e=true) :
 (∀K∈e.objs.map (·.1),K∈M)∧(∀K∈objKeys e.objs,K∈M)∧(∀K∈e.ka,K∈M)∧(∀K∈kk e.ki,K∈M)∧(∀K∈e.kr,K∈M)∧(∀v,e.v=some v → ∀J∈v.keys,J∈M) ∧
  subM (p.objs.map (·.1)) (envKeys p.env)=true∧subM (p.objs.map (·.1)) (objKeys p.objs)=true ∧ ∀x∈p.env,noUnd x.2=true:=by
 simp only [okEff,Bool.and_eq_true,List.all_eq_true] at h
 obtain ⟨h1,h2,h3,h4,h5,h6,h7,h8,h9⟩:=h
 refine ⟨subM_iff.1 h1,subM_iff.1 h2,subM_iff.1 h3,subM_iff.1 h4,subM_iff.1 h5,?_,h7,h8,h9⟩
 intro v hv
 rw [hv] at h6
 exact subM_iff.1 h6
def CalmOK (Φ:Ctx) (C:Oracle):Prop := ∀(p:St) (o:Oper) (e:Eff),effOf Φ C p o=some e→e.calm=true→(subM (keysMade Φ o) e.ka&&(subM (keysMade Φ o) (kk e.ki)&&subM (keysMade Φ o) e.kr))=true → ∀K,K∉keysMade Φ o→lk e.objs K=lk p.objs K
theorem doneOf_calm {i:Nat} {s:St} {made M:List Nat} {e:Eff} {m:DX} (h:(doneOf i s made M e m).calm=true):e.calm=true∧(subM made e.ka&&(subM made (kk e.ki)&&subM made e.kr))=true:=by
 simpa [doneOf] using h
theorem loud_append {Φ:Ctx} {p s1:St} {o:Oper} {args:Array Operand} {argTypes:Array TypeId} {d:Nat} {b:Bool} {x y:AVal} (ho:o.op=.call { callee:=.builtin .append,args,argTypes }) (hxy:evs Φ p argTypes.toList args.toList=some [x,y])
 (h:loud Φ p o d=some (b,s1)) {r:Nat×Option Nat} (hr:wrOk ((d,none)::(digs1 x++digs1 y)) r=true):rdv s1.objs r.1 r.2=rdv p.objs r.1 r.2:=by
 have hd:r.1≠d:=fun he=>by
  obtain ⟨_,_,h1,_⟩:=wrOk_mem hr (z:=(d,none)) (by simp) he.symm
  simp at h1
 have hr':wrOk (digs1 x++digs1 y) r=true:=List.all_eq_true.2 fun z hz=>List.all_eq_true.1 hr z (List.mem_cons_of_mem _ hz)
 obtain ⟨h1,h2⟩:=wrOk_append.1 hr'
 unfold loud at h
 rw [ho] at h
 dsimp only at h
 rw [hxy] at h
 split at h
 · rename_i e sz x' y' hT heq
   simp only [Option.some.injEq,List.cons.injEq,and_true] at heq
   obtain ⟨rfl,rfl⟩:=heq
   cases hq:(!(Nat.beq argTypes.size 2&&lenT Φ (argTypes.getD 1 0) y)) with
   | true=>rw [hq] at h;simp at h
   | false=>
     rw [hq] at h
     simp only [cond_false] at h
     split at h
     · simp at h
     · cases hm:p.more y _ with
       | none=>rw [hm] at h;simp at h
       | some q=>
         obtain ⟨b1,ys,s2⟩:=q
         rw [hm] at h
         dsimp only at h
         cases hbs:s2.base x _ with
         | none=>rw [hbs] at h;simp at h
         | some q=>
           obtain ⟨b2,xs,s3⟩:=q
           rw [hbs] at h
           simp only [Option.some.injEq,Prod.mk.injEq] at h
           rw [←h.2,←more_rd hm h2,←base_rd hbs h1]
           exact rdv_congr (by simp only [St.set,St.setObj,St.drop,lk_ins,lk_del];rw [if_neg hd,if_neg hd]) _
 · simp at h
theorem wrOf_ok {Φ:Ctx} {C:Oracle} {o:Oper} {p:St} {e:Eff} (he:effOf Φ C p o=some e) (hc:e.cond=true) {l:List (Nat×Option Nat)} (hl:wrOf Φ p (o.dst.getD 0) o.op=some l) {r:Nat×Option Nat} (hr:wrOk l r=true):rdv e.objs r.1 r.2=rdv p.objs r.1 r.2:=by
 cases ho:o.op with
 | store t a x=>
   rw [ho] at hl
   simp only [wrOf] at hl
   have hcalm:calm Φ p o (o.dst.getD 0)=none:=by unfold calm;rw [ho]
   have hloud:loud Φ p o (o.dst.getD 0)=(match Φ.ti t,p.ev Φ 0 a,p.ev Φ t x with
    | some T,some q,some v=>bif o.dst.isNone then vstore T p q v else none
    | _,_,_=>none):=by unfold loud;rw [ho];(try dsimp only);(try (cases Φ.ti t <;> cases p.ev Φ 0 a <;> cases p.ev Φ t x <;> rfl))
   simp only [effOf,veffK,veff,hcalm,hloud] at he
   split at hl
   · rename_i K q off v ha hx
     rw [ha,hx] at he
     cases hT:Φ.ti t with
     | none=>rw [hT] at he;simp [ho] at he
     | some T=>
       rw [hT] at he
       dsimp only at he
       cases hd:o.dst.isNone with
       | false=>rw [hd] at he;simp [ho] at he
       | true=>
         rw [hd] at he
         simp only [cond_true] at he
         cases hv:vstore T p (.ptr K q off) v with
         | none=>rw [hv] at he;simp [ho] at he
         | some z=>
           obtain ⟨b,s1⟩:=z
           rw [hv] at he
           have hb:(!((o.dst.isSome&&mem (o.dst.getD 0) (keysMade Φ o))||isStore o.op))=false:=by simp [ho,isStore]
           simp only [hb,cond_false,Option.some.injEq] at he
           have hcb:b=true:=by rw [←he] at hc;exact hc
           have hobj:e.objs=s1.objs:=by rw [←he]
           subst hcb
           rw [hobj]
           cases hw:wideQ p v with
           | true=>rw [hw] at hl;simp at hl
           | false=>
             rw [hw] at hl
             simp only [cond_false] at hl
             cases hdv:digsV v with
             | none=>rw [hdv] at hl;simp at hl
             | some l2=>
               rw [hdv] at hl
               simp only [Option.some.injEq] at hl
               subst hl
               simp only [vstore] at hv
               cases hA:T.agg with
               | true=>
                 rw [hA] at hv
                 cases v with
                 | agg vs=>
                   dsimp only at hv
                   cases hz:zipS fitsC T.cts vs with
                   | false=>rw [hz] at hv;simp at hv
                   | true=>rw [hz] at hv;simp only [cond_true] at hv;exact storeAt_rd hw hv hdv hr
                 | _=>simp at hv
               | false=>
                 rw [hA] at hv
                 cases hcts:T.cts with
                 | nil=>rw [hcts] at hv;simp at hv
                 | cons c cs=>
                   cases cs with
                   | cons _ _=>rw [hcts] at hv;simp at hv
                   | nil=>
                     rw [hcts] at hv
                     dsimp only at hv
                     cases hz:fitsC c v with
                     | false=>rw [hz] at hv;simp at hv
                     | true=>rw [hz] at hv;simp only [cond_true] at hv;exact storeAt_rd hw hv hdv hr
   · simp at hl
 | call c=>
   obtain ⟨callee,args,argTypes⟩:=c
   rw [ho] at hl
   have hap:callee=.builtin .append:=by
    cases callee with
    | builtin b=>cases b <;> first|rfl|(simp [wrOf] at hl)
    | _=>simp [wrOf] at hl
   subst hap
   simp only [wrOf] at hl
   have hcalm:calm Φ p o (o.dst.getD 0)=none:=by unfold calm;rw [ho]
   split at hl
   · rename_i x y hxy
     simp only [Option.some.injEq] at hl
     subst hl
     simp only [effOf,veffK,veff,hcalm] at he
     cases hL:loud Φ p o (o.dst.getD 0) with
     | none=>rw [hL] at he;simp [ho,vsend,glance,vsendL,vsend0,callee] at he
     | some q=>
       obtain ⟨b,s1⟩:=q
       rw [hL] at he
       dsimp only at he
       cases hg:(!((o.dst.isSome&&mem (o.dst.getD 0) (keysMade Φ o))||isStore o.op)) with
       | true=>rw [hg] at he;simp [ho,vsend,glance,vsendL,vsend0,callee] at he
       | false=>
         rw [hg] at he
         simp only [cond_false,Option.some.injEq] at he
         have hobj:e.objs=s1.objs:=by rw [←he]
         rw [hobj]
         exact loud_append ho hxy hL hr
   · simp at hl
 | _=>rw [ho] at hl;simp [wrOf] at hl
theorem eft_plain {Φ:Ctx} {C:Oracle} (hC:CalmOK Φ C) {o:Oper} {i:Nat} {s:St} {e:Eff} (he:effOf Φ C (s.part o.op) o=some e) (hok:okOp Φ s o e=true) :
 Eft s (doneOf i s (keysMade Φ o) (mof Φ s o) e (moreOf Φ (s.part o.op) o e)) o.dst (mof Φ s o) ((s.part o.op).objs.map (·.1)) e (s.join (mof Φ s o) o.dst e):=by
 simp only [okOp,Bool.and_eq_true] at hok
 obtain ⟨hcond,hE,hd,hmd⟩:=hok
 obtain ⟨h1,h2,h3,h4,h5,h6,h7,h8,h9⟩:=okEff_iff hE
 refine ⟨St.like.refl _,fun K h=>h,fun K h=>by simp only [mof,List.mem_append];exact .inr h,?_,?_,?_,fun v hv=>.inl (h6 v hv),?_,?_,fun K hK => ?_,fun K hK => ?_,?_,?_,?_,⟨rfl,rfl,rfl⟩,fun r hr=>by simp [doneOf,moreOf] at hr,?_⟩
 · intro K u hu;exact h1 K (lk_mem hu)
 · intro K u hu J hJ;exact h2 J (mem_objKeys.2 ⟨_,lk_in hu,hJ⟩)
 · rintro K (h|h|h)
   · exact h3 K h
   · exact h4 K h
   · exact h5 K h
 · intro t ht;simpa [ht] using hd
 · intro K hK u hu J hJ
   have:J∈(s.part o.op).objs.map (·.1):=subM_iff.1 h8 J (mem_objKeys.2 ⟨(K,u),lk_in (by rw [part_objs_at hK];exact hu),hJ⟩)
   show J∈mof Φ s o
   simp only [mof,List.mem_append];exact .inr this
 · show K∈mof Φ s o
   simp only [mof,List.mem_append];exact .inl hK
 · have:=List.all_eq_true.1 hmd K hK
   simp only [Bool.and_eq_true,Option.isNone_iff_eq_none] at this
   exact this.2
 · intro hc
   obtain ⟨hc1,hc2⟩:=doneOf_calm hc
   refine ⟨fun K hK hM => ?_,fun K h => ?_⟩
   · have hs:K∈(s.part o.op).objs.map (·.1):=by
      simp only [mof,List.mem_append] at hM;exact hM.resolve_left hK
     exact ⟨hs,by rw [hC _ o e he hc1 hc2 K hK,part_objs_at hs]⟩
   · simp only [Bool.and_eq_true] at hc2
     rcases h with h|h|h
     · exact subM_iff.1 hc2.1 K h
     · exact subM_iff.1 hc2.2.1 K h
     · exact subM_iff.1 hc2.2.2 K h
 · intro hc;exact (doneOf_calm hc).1
 · intro hh K u hu hor
   have:=hitIn_all.1 (show hitIn (AVal.dead e.ka e.ki e.kr) (mof Φ s o) e.calm s.objs s.objs=false from hh)
   exact this K u hu hor
 · intro l hl r hr hM
   have hl':wrOf Φ (s.part o.op) (o.dst.getD 0) o.op=some l:=hl
   have hs:r.1∈(s.part o.op).objs.map (·.1):=by
    simp only [mof,List.mem_append] at hM
    rcases hM with hM|hM
    · exfalso
      cases ho:o.op with
      | store t a x=>
        simp only [keysMade] at hM
        cases hd:o.dst with
        | none=>rw [hd] at hM;simp at hM
        | some d=>rw [hd,ho] at hM;simp [makes] at hM
      | call c=>
        obtain ⟨callee,args,argTypes⟩:=c
        rw [ho] at hl'
        have hap:callee=.builtin .append:=by
         cases callee with
         | builtin b=>cases b <;> first|rfl|(simp [wrOf] at hl')
         | _=>simp [wrOf] at hl'
        subst hap
        simp only [keysMade] at hM
        cases hd:o.dst with
        | none=>rw [hd] at hM;simp at hM
        | some d=>
          rw [hd,ho] at hM
          simp only [List.mem_singleton] at hM
          simp only [wrOf,hd,Option.getD_some] at hl'
          split at hl'
          · simp only [Option.some.injEq] at hl'
            rw [←hl'] at hr
            obtain ⟨_,_,h1,_⟩:=wrOk_mem hr (z:=(d,none)) (by simp) hM.symm
            simp at h1
          · simp at hl'
      | _=>rw [ho] at hl';simp [wrOf] at hl'
    · exact hM
   rw [wrOf_ok he hcond hl' hr]
   exact rdv_congr (part_objs_at hs) _
theorem tmp_lk {s:St} {g:Nat} {v:AVal} (h:s.tmp g=v) (hv:v≠.und):lk s.env g=some v:=by
 simp only [St.tmp] at h
 cases hq:lk s.env g with
 | none=>rw [hq] at h;simp at h;exact absurd h.symm hv
 | some q=>rw [hq] at h;simp at h;rw [h]
section
variable {Φ:Ctx} {s t:St}
theorem look_congr {o:Op} (he : ∀x∈opTmps o,lk t.env x=lk s.env x) (ho : ∀u x K off,o=.load u (.tmp x)→lk s.env x=some (.ptr K [] off)→rdv t.objs K off=rdv s.objs K off):look Φ t o=look Φ s o:=by
 have ht : ∀x∈opTmps o,t.tmp x=s.tmp x:=fun x hx=>by simp [St.tmp,he x hx]
 cases o with
 | move x=>cases x <;> simp [look];exact ht _ (by simp [opTmps,Op.operands])
 | assign x=>cases x <;> simp [look];exact ht _ (by simp [opTmps,Op.operands])
 | nilCheck x=>cases x <;> simp [look];exact ht _ (by simp [opTmps,Op.operands])
 | fieldAddr _ x _=>cases x <;> simp [look];exact ht _ (by simp [opTmps,Op.operands])
 | load u x=>
   cases x with
   | tmp a=>
     simp only [look,ht a (by simp [opTmps,Op.operands])]
     cases Φ.ti u with
     | none=>rfl
     | some T=>
       cases hv:s.tmp a with
       | ptr K p off=>
         cases p with
         | nil=>
           dsimp only
           rw [ho u a K off rfl (tmp_lk hv (by simp))]
         | cons _ _=>rfl
       | _=>rfl
   | _=>rfl
 | _=>rfl
theorem lookQ_congr {o:Op} (he : ∀x∈opTmps o,lk t.env x=lk s.env x) (ho : ∀u x K off,o=.load u (.tmp x)→lk s.env x=some (.ptr K [] off)→rdv t.objs K off=rdv s.objs K off):lookQ Φ t o=lookQ Φ s o:=by
 simp only [lookQ,look_congr he ho]
def gcell (T:CT) (K:Nat) (p:List Nat) (u:AVal):Option (Bool×AVal):=
 match T with
 | .slice sz=>(match u with
    | .own s _=>bif Nat.beq s sz then some (true,.ref K p) else none
    | .ro t s xs=>bif Nat.beq s sz then some (true,.ro t s xs) else none
    | .ref J q=>some (true,.ref J q)
    | _=>none)
 | .ptr=>(match u with|.nilp=>some (true,.nilp)|.ptr J q off=>some (true,.ptr J q off)|_=>none)
 | .oth=>(match u with|.clo f cs=>some (true,.clo f cs)|.mp _ _=>some (true,.ref K p)|_=>none)
 | T=>some (T.shape u,T.co u)
theorem gcell_skel (T:CT) (K:Nat) (p:List Nat) (u:AVal):gcell T K p (skel1 u)=gcell T K p u:=by
 cases T <;> cases u <;> rfl
theorem thru_nil' (u:AVal):u.thru []=false:=by cases u <;> rfl
theorem get_nil' (u:AVal):u.get []=u:=by cases u <;> rfl
theorem cellAt_g (T:CT) (K i:Nat) (cs:List AVal):cellAt T K (.agg cs) [i]=gcell T K [i] (cs.getD i .und):=by
 have h1:(AVal.agg cs).thru [i]=(cs.getD i .und).thru []:=rfl
 have h2:(AVal.agg cs).get [i]=(cs.getD i .und).get []:=rfl
 cases T <;> simp only [cellAt,h1,h2,thru_nil',get_nil',gcell,cond_false] <;> rfl
theorem cellAt_g0 (T:CT) (K:Nat) (u:AVal):cellAt T K u []=gcell T K [] u:=by
 cases T <;> simp only [cellAt,thru_nil',get_nil',gcell,cond_false] <;> rfl
theorem vload_congr {T:TI} {K:Nat} {off:Option Nat} {u:VObj} (hT:T.agg=false) (hs:rdv s.objs K off=some u) (ht:rdv t.objs K off=some u):vload T t (.ptr K [] off)=vload T s (.ptr K [] off):=by
 cases off with
 | none=>
   have hl : ∀{l:List (Nat×VObj)},rdv l K none=some u → ∃o,lk l K=some o∧skel1 o.c=u.c:=by
    intro l hl
    cases ho:lk l K with
    | none=>rw [rdv_away ho] at hl;simp at hl
    | some o=>
      rw [rdv_none ho] at hl
      cases hc:aggQ o.c with
      | true=>rw [hc] at hl;simp at hl
      | false=>rw [hc] at hl;simp only [cond_false,Option.some.injEq] at hl;exact ⟨o,rfl,by rw [←hl]⟩
   obtain ⟨o1,h1,h2⟩:=hl hs
   obtain ⟨o2,h3,h4⟩:=hl ht
   have e : ∀ct,cellAt ct K o2.c []=cellAt ct K o1.c []:=fun ct=>by
    rw [cellAt_g0,cellAt_g0,←gcell_skel ct K [] o1.c,←gcell_skel ct K [] o2.c,h2,h4]
   simp only [vload,St.obj,h1,h3,hT,offP,AVal.okg,Option.isNone_none,Bool.true_or,e]
   rcases T.cts with _|⟨ct,_|_⟩ <;> rfl
 | some c=>
   have hl : ∀{l:List (Nat×VObj)},rdv l K (some c)=some u → ∃bx cs,lk l K=some { box:=bx,c:=.agg cs }∧c<cs.length∧skel1 (cs.getD c .und)=u.c:=by
    intro l hl
    cases ho:lk l K with
    | none=>rw [rdv_away ho] at hl;simp at hl
    | some o=>
      cases hc:aggQ o.c with
      | false=>rw [rdv_flat ho hc] at hl;simp at hl
      | true=>
        obtain ⟨bx,oc⟩:=o
        cases oc with
        | agg cs=>
          rw [rdv_some ho] at hl
          cases hx:cs[c]? with
          | none=>rw [hx] at hl;simp at hl
          | some x=>
            rw [hx] at hl
            simp only [Option.map_some,Option.some.injEq] at hl
            exact ⟨bx,cs,rfl,(List.getElem?_eq_some_iff.1 hx).1,by rw [←hl];simp [List.getD,hx]⟩
        | _=>simp [aggQ] at hc
   obtain ⟨b1,cs,h1,l1,h2⟩:=hl hs
   obtain ⟨b2,ds,h3,l2,h4⟩:=hl ht
   have e : ∀ct,cellAt ct K (.agg ds) [c]=cellAt ct K (.agg cs) [c]:=fun ct=>by
    rw [cellAt_g,cellAt_g,←gcell_skel ct K [c] (cs.getD c .und),←gcell_skel ct K [c] (ds.getD c .und),h2,h4]
   have k1:Nat.blt c cs.length=true:=by rw [Nat.blt_eq];exact l1
   have k2:Nat.blt c ds.length=true:=by rw [Nat.blt_eq];exact l2
   simp only [vload,St.obj,h1,h3,hT,offP,List.nil_append,AVal.get,AVal.okg,k1,k2,aggQ,e]
   rcases T.cts with _|⟨ct,_|_⟩ <;> rfl
theorem calm_congr {o:Oper} {d:Nat} {q:List AVal×List (Nat×Option Nat)} (hq:look Φ s o.op=some q) (he : ∀x∈opTmps o.op,lk t.env x=lk s.env x) (ho : ∀u x K off,o.op=.load u (.tmp x)→lk s.env x=some (.ptr K [] off)→rdv t.objs K off=rdv s.objs K off):calm Φ t o d=calm Φ s o d:=by
 have ht : ∀x∈opTmps o.op,t.tmp x=s.tmp x:=fun x hx=>by simp [St.tmp,he x hx]
 cases hop:o.op with
 | move x=>
   rw [hop] at hq ht
   cases x with
   | tmp a=>unfold calm;rw [hop];simp only [St.ev,ht a (by simp [opTmps,Op.operands])]
   | _=>simp [look] at hq
 | assign x=>
   rw [hop] at hq ht
   cases x with
   | tmp a=>unfold calm;rw [hop];simp only [St.ev,ht a (by simp [opTmps,Op.operands])]
   | _=>simp [look] at hq
 | nilCheck x=>
   rw [hop] at hq ht
   cases x with
   | tmp a=>unfold calm;rw [hop];simp only [St.ev,ht a (by simp [opTmps,Op.operands])]
   | _=>simp [look] at hq
 | fieldAddr _ x _=>
   rw [hop] at hq ht
   cases x with
   | tmp a=>unfold calm;rw [hop];simp only [St.ev,ht a (by simp [opTmps,Op.operands])]
   | _=>simp [look] at hq
 | load u x=>
   rw [hop] at hq ht
   cases x with
   | tmp a=>
     unfold calm;rw [hop]
     simp only [look] at hq
     split at hq
     · rename_i T K off hT hv
       cases hag:T.agg with
       | true=>rw [hag] at hq;simp at hq
       | false=>
         rw [hag] at hq
         simp only [cond_false] at hq
         cases hr:rdv s.objs K off with
         | none=>rw [hr] at hq;simp at hq
         | some z=>
           have h2:=ho u a K off hop (tmp_lk hv (by simp))
           simp only [St.ev,ht a (by simp [opTmps,Op.operands]),hv,hT,vload_congr hag hr (h2.trans hr)]
     · simp at hq
   | _=>simp [look] at hq
 | _=>rw [hop] at hq;simp [look] at hq
theorem look_tmp {o:Op} {q:List AVal×List (Nat×Option Nat)} (hq:look Φ s o=some q) {x:Nat} (hx:x∈opTmps o):s.tmp x∈q.1:=by
 cases o with
 | move y=>cases y <;> simp [look] at hq;subst hq;simp [opTmps,Op.operands] at hx;subst hx;simp
 | assign y=>cases y <;> simp [look] at hq;subst hq;simp [opTmps,Op.operands] at hx;subst hx;simp
 | nilCheck y=>cases y <;> simp [look] at hq;subst hq;simp [opTmps,Op.operands] at hx;subst hx;simp
 | fieldAddr _ y _=>cases y <;> simp [look] at hq;subst hq;simp [opTmps,Op.operands] at hx;subst hx;simp
 | load u y=>
   cases y with
   | tmp a=>
     simp [opTmps,Op.operands] at hx;subst hx
     simp only [look] at hq
     split at hq
     · rename_i T K off hT hv
       cases hag:T.agg with
       | true=>rw [hag] at hq;simp at hq
       | false=>
         rw [hag] at hq
         simp only [cond_false] at hq
         split at hq
         · simp only [Option.some.injEq] at hq;subst hq;rw [hv];simp
         · simp at hq
     · simp at hq
   | _=>simp [look] at hq
 | _=>simp [look] at hq
theorem look_rd {o:Op} {q:List AVal×List (Nat×Option Nat)} (hq:look Φ s o=some q) {r:Nat×Option Nat} (hr:r∈q.2) : ∃u,rdv s.objs r.1 r.2=some u∧u.c∈q.1:=by
 cases o with
 | move y=>cases y <;> simp [look] at hq;subst hq;simp at hr
 | assign y=>cases y <;> simp [look] at hq;subst hq;simp at hr
 | nilCheck y=>cases y <;> simp [look] at hq;subst hq;simp at hr
 | fieldAddr _ y _=>cases y <;> simp [look] at hq;subst hq;simp at hr
 | load u y=>
   cases y with
   | tmp a=>
     simp only [look] at hq
     split at hq
     · rename_i T K off hT hv
       cases hag:T.agg with
       | true=>rw [hag] at hq;simp at hq
       | false=>
         rw [hag] at hq
         simp only [cond_false] at hq
         split at hq
         · rename_i z hz
           simp only [Option.some.injEq] at hq;subst hq;simp at hr;subst hr;exact ⟨z,hz,by simp⟩
         · simp at hq
     · simp at hq
   | _=>simp [look] at hq
 | _=>simp [look] at hq
theorem look_load {u x K:Nat} {off:Option Nat} {q:List AVal×List (Nat×Option Nat)} (hq:look Φ s (.load u (.tmp x))=some q) (hv:lk s.env x=some (.ptr K [] off)):(K,off)∈q.2:=by
 simp only [look] at hq
 have ht:s.tmp x=.ptr K [] off:=by simp [St.tmp,hv]
 rw [ht] at hq
 split at hq
 · rename_i T K' off' hT heq
   simp only [AVal.ptr.injEq,true_and] at heq
   obtain ⟨rfl,rfl⟩:=heq
   cases hag:T.agg with
   | true=>rw [hag] at hq;simp at hq
   | false=>
     rw [hag] at hq
     simp only [cond_false] at hq
     split at hq
     · simp only [Option.some.injEq] at hq;subst hq;simp
     · simp at hq
 · simp at hq
theorem noUnds_mem : ∀{xs:List AVal},noUnds xs=true → ∀x∈xs,noUnd x=true
 | [],_,x,h=>by simp at h
 | y::ys,h,x,hx=>by
   simp only [noUnds,Bool.and_eq_true] at h
   rcases List.mem_cons.1 hx with rfl|hx
   · exact h.1
   · exact noUnds_mem h.2 x hx
theorem lookQ_some {o:Op} {q:List AVal×List (Nat×Option Nat)} (h:lookQ Φ s o=some q):look Φ s o=some q∧noUnds q.1=true:=by
 simp only [lookQ] at h
 cases hl:look Φ s o with
 | none=>rw [hl] at h;simp at h
 | some z=>
   rw [hl] at h
   dsimp only at h
   cases hn:noUnds z.1 with
   | false=>rw [hn] at h;simp at h
   | true=>rw [hn] at h;simp only [cond_true,Option.some.injEq] at h;subst h;exact ⟨rfl,hn⟩
theorem look_stp {C:Oracle} {o:Oper} {i:Nat} {s s':St} {d:Done} {l:List Nat} (hx:isExtract o.op=false) (hpl:plainQ Φ s o=true) (h:runOp Φ C o i s mk2=some (s',d)) (hl : ∀x∈opTmps o.op,x∈l):Stp (fun t=>runOp Φ C o i t mk2) l o.dst s d s':=by
 obtain ⟨q,dd,hq,hd⟩:=plainQ_some hpl
 rw [runOp_look hx hq hd] at h
 obtain ⟨hlk,hnu⟩:=lookQ_some hq
 cases hc:calm Φ s o dd with
 | none=>rw [hc] at h;simp at h
 | some e=>
   rw [hc] at h
   simp only [Option.bind_some] at h
   cases hb:(e.cond&&e.o.isNone) with
   | false=>rw [hb] at h;simp at h
   | true=>
     rw [hb] at h
     simp only [cond_true,mk2,Option.some.injEq,Prod.mk.injEq] at h
     obtain ⟨rfl,rfl⟩:=h
     have hrr : ∀r∈q.2,∃u,rdv s.objs r.1 r.2=some u∧u.c∈e.v::q.1∧noUnd u.c=true:=fun r hr=>by
      obtain ⟨u,h1,h2⟩:=look_rd hlk hr
      exact ⟨u,h1,List.mem_cons_of_mem _ h2,noUnds_mem hnu _ h2⟩
     rw [hd]
     refine ⟨[],[],pureE e.v,Eft.pure s (some dd) e.v i [] (e.v::q.1) q.2 (.inr (List.mem_cons_self ..)) hrr,?_⟩
     intro t b hbb hrd hag _
     have hv : ∀x∈opTmps o.op,∃v,lk s.env x=some v∧lk t.env x=some v:=by
      intro x hxo
      have h1:=look_tmp hlk hxo
      have h2:=noUnds_mem hnu _ h1
      have h3:lk s.env x=some (s.tmp x):=tmp_lk rfl (by intro he;rw [he] at h2;simp [noUnd] at h2)
      refine ⟨_,h3,?_⟩
      rcases hag with hag|hag
      · rw [hag.1 x (hl x hxo),h3]
        simp only [Option.map_some]
        rw [anyDead_id b _ (hbb _ (.inr (List.mem_cons_of_mem _ h1)))]
      · have:=hag.1 x (hl x hxo)
        rw [h3] at this
        cases hu:lk t.env x with
        | none=>rw [hu] at this;simp at this
        | some u=>
          rw [hu] at this
          simp only [Option.map_some,Option.some.injEq] at this
          rw [this] at h2 ⊢
          rw [noUnd_id b u h2]
     have he : ∀x∈opTmps o.op,lk t.env x=lk s.env x:=fun x hx=>by obtain ⟨v,h1,h2⟩:=hv x hx;rw [h1,h2]
     have ho : ∀u x K off,o.op=.load u (.tmp x)→lk s.env x=some (.ptr K [] off)→rdv t.objs K off=rdv s.objs K off:=fun u x K off h1 h2=>by
      rw [h1] at hlk
      exact hrd (K,off) (look_load hlk h2)
     have hq':lookQ Φ t o.op=some q:=by rw [lookQ_congr he ho];exact hq
     refine ⟨t.set dd e.v,doneL i q e.v,?_,rfl,rfl,rfl,rfl,rfl,Eft.pure t (some dd) e.v i [] (e.v::q.1) q.2 (.inr (List.mem_cons_self ..)) (fun r hr => ?_),fun _=>rfl⟩
     · rw [runOp_look hx hq' hd,calm_congr hlk he ho,hc]
       simp only [Option.bind_some,hb,cond_true,mk2]
     · rw [hrd r hr];exact hrr r hr
end
theorem runOp_stp {Φ:Ctx} {C:Oracle} (hC:CalmOK Φ C) {o:Oper} {i:Nat} {s s':St} {d:Done} {l:List Nat} (h:runOp Φ C o i s mk2=some (s',d)) (hl : ∀x∈opTmps o.op,x∈l):Stp (fun t=>runOp Φ C o i t mk2) l o.dst s d s':=by
 cases hx:isExtract o.op with
 | false=>
   cases hpl:plainQ Φ s o with
   | true=>exact look_stp hx hpl h hl
   | false=>
   have h0:=h
   rw [runOp_plain hx hpl] at h
   cases he:effOf Φ C (s.part o.op) o with
   | none=>rw [he] at h;simp at h
   | some e=>
     rw [he] at h
     simp only [Option.bind_some] at h
     cases hc:okOp Φ s o e with
     | false=>rw [hc] at h;simp at h
     | true=>
       rw [hc] at h
       simp only [cond_true,mk2,Option.some.injEq,Prod.mk.injEq] at h
       obtain ⟨rfl,rfl⟩:=h
       refine ⟨mof Φ s o,(s.part o.op).objs.map (·.1),e,eft_plain hC he hc,?_⟩
       intro t b hb _ hag hfr
       have hok:=hc
       simp only [okOp,Bool.and_eq_true] at hok
       obtain ⟨_,hE,hd,_⟩:=hok
       obtain ⟨h1,h2,h3,h4,h5,h6,h7,h8,h9⟩:=okEff_iff hE
       have henv : ∀x∈opTmps o.op,lk t.env x=lk s.env x:=by
        intro x hx
        have hpe:=part_env_at (s:=s) hx
        rcases hag with hag|hag
        · rw [hag.1 x (hl x hx)]
          cases hv:lk s.env x with
          | none=>rfl
          | some v=>
            rw [hv] at hpe
            have hm:=lk_in hpe
            have:anyDead b v=false:=hb v<|.inl fun J hJ=>by
             have:=subM_iff.1 h7 J (mem_envKeys.2 ⟨_,hm,hJ⟩)
             show J∈mof Φ s o
             simp only [mof,List.mem_append];exact .inr this
            simp [anyDead_id b v this]
        · have hx2:=hag.1 x (hl x hx)
          cases hv:lk t.env x with
          | none=>rw [hv] at hx2;simpa using hx2.symm
          | some u=>
            rw [hv] at hx2
            simp only [Option.map_some] at hx2
            rw [hx2] at hpe
            have hm:=lk_in hpe
            have:=noUnd_id b u (h9 _ hm)
            rw [hx2,this]
       have hp:t.part o.op=s.part o.op:=part_congr henv (fun K hK=>Agree.seen hag K hK) h7 h8
       have hm:mof Φ t o=mof Φ s o:=by simp only [mof,hp]
       have he':effOf Φ C (t.part o.op) o=some e:=by rw [hp];exact he
       have hc':okOp Φ t o e=true:=by
        simp only [okOp,hp,hm,Bool.and_eq_true] at hc ⊢
        refine ⟨hc.1,hc.2.1,hc.2.2.1,List.all_eq_true.2 fun K hK => ?_⟩
        have:=List.all_eq_true.1 hc.2.2.2 K hK
        simp only [Bool.and_eq_true,Option.isNone_iff_eq_none] at this ⊢
        exact ⟨this.1,hfr K hK⟩
       have hpt:plainQ Φ t o=false:=by
        have:lookQ Φ t o.op=lookQ Φ s o.op:=lookQ_congr henv fun u x K off ho hv=>by
         refine rdv_congr (Agree.seen hag K ?_) off
         have hxo:x∈opTmps o.op:=by rw [ho];simp [opTmps,Op.operands]
         have hpe:=part_env_at (s:=s) hxo
         rw [hv] at hpe
         exact subM_iff.1 h7 K (mem_envKeys.2 ⟨_,lk_in hpe,by simp [AVal.keys]⟩)
        simp only [plainQ,this];exact hpl
       refine ⟨t.join (mof Φ s o) o.dst e,doneOf i t (keysMade Φ o) (mof Φ s o) e (moreOf Φ (s.part o.op) o e),?_,rfl,rfl,rfl,rfl,rfl,?_,?_⟩
       rotate_left
       · have:=eft_plain (i:=i) hC he' hc'
         rw [hm,hp] at this
         exact this
       · intro hh
         exact hitIn_all.2 hh
       · rw [runOp_plain hx hpt,he',hp]
         simp only [Option.bind_some,hc',hm,cond_true,mk2]
 | true=>
   unfold runOp at h ⊢
   split at h
   · rename_i x j ho
     split at h
     · rename_i vs dd hv hd
       cases hb:(Nat.blt j vs.length&&noUnd (vs.getD j .und)) with
       | false=>rw [hb] at h;simp at h
       | true=>
         rw [hb] at h
         simp only [cond_true,mk2,Option.some.injEq,Prod.mk.injEq] at h
         obtain ⟨rfl,rfl⟩:=h
         rw [hd]
         refine ⟨[],[],pureE (vs.getD j .und),Eft.pure s (some dd) _ i _ [] [] (.inl fun J hJ=>hJ) (by simp),?_⟩
         intro t b hbb _ hag _
         have hxl:x∈l:=hl x (by rw [ho];simp [opTmps,Op.operands])
         simp only [Bool.and_eq_true,Nat.blt_eq] at hb
         have hvt : ∃us,t.tmp x=.tup us∧us.length=vs.length∧us.getD j .und=vs.getD j .und:=by
          have hs:lk s.env x=some (.tup vs):=by
           simp only [St.tmp] at hv
           cases hq:lk s.env x with
           | none=>rw [hq] at hv;simp at hv
           | some q=>rw [hq] at hv;simp at hv;rw [hv]
          rcases hag with hag|hag
          · have:=hag.1 x hxl
            rw [hs] at this
            simp only [Option.map_some,killV] at this
            refine ⟨killVs b vs,by simp [St.tmp,this],killVs_length b vs,?_⟩
            rw [killVs_getD]
            exact anyDead_id b _ (hbb _ (.inl fun J hJ=>hJ))
          · have:=hag.1 x hxl
            rw [hs] at this
            cases hq:lk t.env x with
            | none=>rw [hq] at this;simp at this
            | some q=>
              rw [hq] at this
              simp only [Option.map_some,Option.some.injEq] at this
              cases q with
              | tup us=>
                simp only [killV,AVal.tup.injEq] at this
                subst this
                refine ⟨us,by simp [St.tmp,hq],(killVs_length b us).symm,?_⟩
                rw [killVs_getD]
                rw [killVs_getD] at hb
                exact (noUnd_id b _ hb.2).symm
              | ptr K p off=>simp only [killV] at this;cases hk:b (.ptr K p off) <;> simp [hk] at this
              | ref K p=>simp only [killV] at this;cases hk:b (.ref K p) <;> simp [hk] at this
              | clo f cs=>simp only [killV] at this;cases hk:b (.clo f cs) <;> simp [hk] at this
              | _=>simp [killV] at this
         obtain ⟨us,hu,hlen,hg⟩:=hvt
         refine ⟨t.set dd (vs.getD j .und),{ i,calm:=true,made:=[],ment:=(vs.getD j .und).keys,hit:=false },?_,rfl,rfl,rfl,rfl,rfl,Eft.pure t (some dd) _ i _ [] [] (.inl fun J hJ=>hJ) (by simp),fun _=>rfl⟩
         simp only [hu,hg,hlen]
         have:(Nat.blt j vs.length&&noUnd (vs.getD j .und))=true:=by simp only [Bool.and_eq_true,Nat.blt_eq];exact hb
         rw [this];rfl
     · simp at h
   · rename_i hne
     cases ho:o.op with
     | extract x j=>
       cases x with
       | tmp t=>exact absurd ho (hne t j)
       | _=>rw [ho] at hx;simp [isExtract] at hx
     | _=>rw [ho] at hx;simp [isExtract] at hx
end Go.VK
namespace Go.VK
open AVal
theorem Agree.like {l seen:List Nat} {b:AVal→Bool} {s t u v:St} (h:Agree l seen b s t) (hs:s.like u) (ht:t.like v):Agree l seen b u v:=
 ⟨fun x hx=>by rw [ht.1,hs.1];exact h.1 x hx,fun K hK=>by rw [ht.2,hs.2];exact h.2 K hK⟩
theorem Stp.prep {step step2:St→Option (St×Done)} {l:List Nat} {dst:Option Nat} {s u s':St} {d:Done} (h:Stp step l dst u d s') (hu:u.like s)
 (hst : ∀t b seen,(Agree l seen b s t∨Agree l seen b t s) → ∃t2,t2.like t∧step2 t=step t2):Stp step2 l dst s d s':=by
 obtain ⟨M,seen,e,hE,htr⟩:=h.ex
 refine ⟨M,seen,e,hE.base hu,fun t b hb hrd hag hfr => ?_⟩
 obtain ⟨t2,hl,heq⟩:=hst t b seen hag
 obtain ⟨t',d',h1,h2,h3,h4,h5,h5',h6,h7⟩:=htr t2 b hb (fun r hr=>by rw [rdv_congr (hl.2 r.1).symm,rdv_congr (hu.2 r.1).symm];exact hrd r hr) (hag.imp (fun h=>h.like hu.symm hl.symm) (fun h=>h.like hl.symm hu.symm)) (fun K hK=>by rw [←hl.2];exact hfr K hK)
 exact ⟨t',d',by rw [heq];exact h1,h2,h3,h4,h5,h5',h6.base hl,fun hh=>h7 fun K o ho=>hh K o (by rw [hl.2];exact ho)⟩
theorem skipOp_stp {o:Oper} {i:Nat} {s s':St} {d:Done} {l:List Nat} (h:skipOp o i s mk2=some (s',d)):Stp (fun t=>skipOp o i t mk2) l o.dst s d s':=by
 simp only [skipOp,mk2,Option.some.injEq,Prod.mk.injEq] at h
 obtain ⟨rfl,rfl⟩:=h
 refine ⟨[],[],pureE (.tup []),Eft.pure s o.dst (.tup []) i [] [] [] (.inl fun J hJ=>by simp [keys,keysL] at hJ) (by simp),fun t b _ _ _ _ => ?_⟩
 exact ⟨_,{ i,calm:=true,made:=[],ment:=[],hit:=false },rfl,rfl,rfl,rfl,rfl,rfl,Eft.pure t o.dst (.tup []) i [] [] [] (.inl fun J hJ=>by simp [keys,keysL] at hJ) (by simp),fun _=>rfl⟩
theorem set_like {s:St} {g:Nat} {v:AVal} (h:lk s.env g=some v):(s.set g v).like s:=
 ⟨fun k=>by simp only [St.set,lk_ins];split
            · rename_i hk;subst hk;exact h
            · rfl,fun _=>rfl⟩
theorem tmp_some {s:St} {g:Nat} {v:AVal} (h:s.tmp g=v) (hv:v≠.und):lk s.env g=some v:=by
 simp only [St.tmp] at h
 cases hq:lk s.env g with
 | none=>rw [hq] at h;simp at h;exact absurd h.symm hv
 | some q=>rw [hq] at h;simp at h;rw [h]
theorem kill_bool {b:AVal→Bool} {v:AVal} {x:Bool} (h:killV b v=.bool x):v=.bool x:=by
 cases v with
 | ptr K p off=>simp only [killV] at h;cases hk:b (.ptr K p off) <;> simp [hk] at h
 | ref K p=>simp only [killV] at h;cases hk:b (.ref K p) <;> simp [hk] at h
 | clo f cs=>simp only [killV] at h;cases hk:b (.clo f cs) <;> simp [hk] at h
 | _=>simp_all [killV]
theorem kill_tup0 {b:AVal→Bool} {v:AVal} (h:killV b v=.tup []):v=.tup []:=by
 cases v with
 | ptr K p off=>simp only [killV] at h;cases hk:b (.ptr K p off) <;> simp [hk] at h
 | ref K p=>simp only [killV] at h;cases hk:b (.ref K p) <;> simp [hk] at h
 | clo f cs=>simp only [killV] at h;cases hk:b (.clo f cs) <;> simp [hk] at h
 | tup cs=>
   simp only [killV,AVal.tup.injEq] at h
   cases cs with
   | nil=>rfl
   | cons c cs=>simp [killVs] at h
 | _=>simp_all [killV]
theorem agree_flat {l seen:List Nat} {b:AVal→Bool} {s t:St} {g:Nat} {v:AVal} (hg:g∈l) (hv:killV b v=v) (hinv : ∀u,killV b u=v→u=v) (hs:lk s.env g=some v) (h:Agree l seen b s t∨Agree l seen b t s):lk t.env g=some v:=by
 rcases h with h|h
 · rw [h.1 g hg,hs];simp [hv]
 · have:=h.1 g hg
   rw [hs] at this
   cases hq:lk t.env g with
   | none=>rw [hq] at this;simp at this
   | some q=>rw [hq] at this;simp at this;rw [hinv q this.symm]
def vopG (Φ:Ctx) (C:Oracle) (o:Oper) (i:Nat) (t:St) (g:Nat) (b want:Bool):Option (St×Done):=
 bif b then (bif want then runOp Φ C o i (t.set g (.bool true)) mk2 else skipOp o i (t.set g (.bool true)) mk2)
  else (bif want then skipOp o i (t.set g (.bool false)) mk2 else runOp Φ C o i (t.set g (.bool false)) mk2)
theorem vop_stp {Φ:Ctx} {C:Oracle} (hC:CalmOK Φ C) {ops:Array Oper} {o:Oper} {i:Nat} {s s':St} {d:Done} (ho:ops[i]? = some o) (h:vop Φ C ops o i s mk2=some (s',d)):Stp (fun t=>vop Φ C ops o i t mk2) (looks ops i) o.dst s d s':=by
 cases hg:o.guard with
 | none=>
   have hl : ∀x∈opTmps o.op,x∈looks ops i:=fun x hx=>by simp only [looks,ho,hg];exact hx
   simp only [vop,hg] at h ⊢
   exact runOp_stp hC h hl
 | some jw=>
   obtain ⟨j,want⟩:=jw
   simp only [vop,hg] at h ⊢
   cases hd:dstOf ops j with
   | none=>rw [hd] at h;simp at h
   | some g=>
     have hl : ∀x∈opTmps o.op,x∈looks ops i:=fun x hx=>by simp only [looks,ho,hg,hd];exact List.mem_cons_of_mem _ hx
     have hgl:g∈looks ops i:=by simp only [looks,ho,hg,hd];exact List.mem_cons_self ..
     rw [hd] at h
     dsimp only at h ⊢
     split at h
     · rename_i b hb
       have hs:=tmp_some hb (by simp)
       have key : ∀(step:St→Option (St×Done)),Stp step (looks ops i) o.dst (s.set g (.bool b)) d s'→(∀t,t.tmp g=.bool b→vopG Φ C o i t g b want=step (t.set g (.bool b)))→Stp (fun t=>match t.tmp g with
             | .bool b=>bif b then (bif want then runOp Φ C o i (t.set g (.bool true)) mk2 else skipOp o i (t.set g (.bool true)) mk2)
                        else (bif want then skipOp o i (t.set g (.bool false)) mk2 else runOp Φ C o i (t.set g (.bool false)) mk2)
             | .tup []=>skipOp o i t mk2
             | _=>none) (looks ops i) o.dst s d s':=by
        intro step hS heq
        refine hS.prep (set_like hs) fun t b' seen hag => ?_
        have ht:=agree_flat hgl (by simp [killV]) (fun u hu=>kill_bool hu) hs hag
        have htt:t.tmp g=.bool b:=by simp [St.tmp,ht]
        refine ⟨t.set g (.bool b),set_like ht,?_⟩
        rw [←heq t htt]
        simp only [htt,vopG]
       cases b <;> cases want <;> simp only [cond_true,cond_false] at h
       · exact key _ (runOp_stp hC h hl) (fun t _=>rfl)
       · exact key _ (skipOp_stp h) (fun t _=>rfl)
       · exact key _ (skipOp_stp h) (fun t _=>rfl)
       · exact key _ (runOp_stp hC h hl) (fun t _=>rfl)
     · rename_i hb
       have hs:=tmp_some hb (by simp)
       refine (skipOp_stp (l:=looks ops i) h).prep (St.like.refl s) fun t b' seen hag => ?_
       have ht:=agree_flat hgl (by simp [killV,killVs]) (fun u hu=>kill_tup0 hu) hs hag
       have htt:t.tmp g=.tup []:=by simp [St.tmp,ht]
       exact ⟨t,St.like.refl t,by simp only [htt]⟩
     · simp at h
theorem eff_dead_keys {e:Eff} {v:AVal} (h:anyDead e.dead v=true) : ∃K,(K∈e.ka∨K∈kk e.ki∨K∈e.kr)∧K∈v.keys:=
 anyDead_keys (X:=fun K=>K∈e.ka∨K∈kk e.ki∨K∈e.kr) (fun _ h=>dead_keys h) v h
theorem not_dead {e:Eff} {v:AVal} (h : ∀K,(K∈e.ka∨K∈kk e.ki∨K∈e.kr)→K∉v.keys):anyDead e.dead v=false:=by
 cases hd:anyDead e.dead v with
 | false=>rfl
 | true=>obtain ⟨K,h1,h2⟩:=eff_dead_keys hd;exact absurd h2 (h K h1)
theorem map_kill_id {b:AVal→Bool} {x:Option VObj} (h : ∀o,x=some o→anyDead b o.c=false):x.map (fun o=>{ o with c:=killV b o.c })=x:=by
 cases x with
 | none=>rfl
 | some o=>simp [anyDead_id b o.c (h o rfl)]
theorem freeOk_iff {ops:Array Oper} {x y:Done} (h:freeOk ops x y=true) :
 (∀t,dstOf ops x.i=some t→t∉looks ops y.i)∧(∀t,dstOf ops y.i=some t→t∉looks ops x.i)∧(∀t,dstOf ops x.i=some t→dstOf ops y.i≠some t)∧x.hit=false ∧
   ((x.calm=true∧y.calm=true∧(∀K∈x.made,K∉y.ment) ∧ ∀K∈y.made,K∉x.ment) ∨ ∀K∈x.ment,K∉y.ment)∧valOk x y=true∧valOk y x=true∧rdOk x y=true∧rdOk y x=true:=by
 simp only [freeOk,Bool.and_eq_true,Bool.not_eq_true',Bool.or_eq_true,apart_iff] at h
 obtain ⟨⟨h1,h2,h3,h4,h5⟩,h6,h7,h8,h9⟩:=h
 refine ⟨fun t ht => ?_,fun t ht => ?_,fun t ht hy => ?_,h4,?_,h6,h7,h8,h9⟩
 · rw [ht] at h1;exact mem_false.1 h1
 · rw [ht] at h2;exact mem_false.1 h2
 · rw [ht,hy] at h3;simp [optSame] at h3
 · rcases h5 with h5|h5
   · exact .inl ⟨h5.1.1,h5.1.2,h5.2.1,h5.2.2⟩
   · exact .inr h5
end Go.VK
