/- Marks on plain data; where it is not too large. -/
import Derived.Test.YtgoaegbddpmiiaaBb
import Derived.Test.YtgoaegbddpmiiaaXm
import Derived.Test.YtgoaegbddpmiiaaMt
namespace Go.Proofs.Ytgoaegbddpmiiaa
open Go.VK AVal
def cntTerm (_:TermD):Nat:=3
noncomputable def mkTerm (k:Int) (_:TermD):TermD:=((mt k),k+1,k+1+1)
def cntTermS:List TermD→Nat
 | []=>0
 | x::r=>cntTerm x+cntTermS r
noncomputable def mkTermS:Int→List TermD→List TermD
 | _,[]=>[]
 | k,x::r=>mkTerm k x::mkTermS (k+(cntTerm x:Nat)) r
theorem mkTermS_len : ∀(k:Int) (xs:List TermD),(mkTermS k xs).length=xs.length
 | _,[]=>rfl
 | k,x::r=>by simp [mkTermS,mkTermS_len]
theorem mrTermS_0 : ∀(xs:List TermD) (pre:List AVal) (k:Int),pre.length+xs.length≤1048576→0≤k→k+(cntTermS xs:Nat)≤90000000000→Ll_markTermS_0 k (pre.length:Int) (pre++xs.map avTerm)=some (k+(cntTermS xs:Nat),pre++(mkTermS k xs).map avTerm)
 | [],pre,k,hl,h1,h2=>by
   refine ll_markTermS_0 _ _ _ ?_
   simp [mkTermS,cntTermS]
 | x::xs,pre,k,hl,h1,h2=>by
   simp only [cntTermS,cntTerm,List.length_cons] at h2
   simp only [List.length_cons] at hl
   have ih:=mrTermS_0 xs (pre++[avTerm (mkTerm k x)]) (k+1+1+1) (by simp;omega) (by omega) (by omega)
   simp only [List.append_assoc,List.cons_append,List.nil_append,List.length_append,List.length_cons,List.length_nil,Nat.zero_add] at ih
   have hm : ∀y:AVal,pre.length<(pre++y::xs.map avTerm).length:=fun y=>mid_len pre (xs.map avTerm) y
   have ez:avTerm x=avTerm (x.1,x.2.1,x.2.2):=rfl
   have a0:aggQ (avTerm (x.1,x.2.1,x.2.2))=true:=rfl
   have b0:Nat.ble 1 (avTerm (x.1,x.2.1,x.2.2)).cells.length=true:=rfl
   have f0:AVal.agg (setMany (avTerm (x.1,x.2.1,x.2.2)).cells 0 [.str (mt k)])=avTerm ((mt k),x.2.1,x.2.2):=rfl
   have w0:IntKind.wrap .i64 (k+1)=k+1:=wrap64 (by omega) (by omega)
   have a1:aggQ (avTerm ((mt k),x.2.1,x.2.2))=true:=rfl
   have b1:Nat.ble 2 (avTerm ((mt k),x.2.1,x.2.2)).cells.length=true:=rfl
   have f1:AVal.agg (setMany (avTerm ((mt k),x.2.1,x.2.2)).cells 1 [.int .i64 (k+1)])=avTerm ((mt k),k+1,x.2.2):=rfl
   have w1:IntKind.wrap .i64 (k+1+1)=k+1+1:=wrap64 (by omega) (by omega)
   have a2:aggQ (avTerm ((mt k),k+1,x.2.2))=true:=rfl
   have b2:Nat.ble 3 (avTerm ((mt k),k+1,x.2.2)).cells.length=true:=rfl
   have f2:AVal.agg (setMany (avTerm ((mt k),k+1,x.2.2)).cells 2 [.int .i64 (k+1+1)])=avTerm ((mt k),k+1,k+1+1):=rfl
   have w2:IntKind.wrap .i64 (k+1+1+1)=k+1+1+1:=wrap64 (by omega) (by omega)
   have em:avTerm ((mt k),k+1,k+1+1)=avTerm (mkTerm k x):=rfl
   refine ll_markTermS_0 _ _ _ ?_
   simp only [List.map_cons,Int.toNat_natCast,dlt_true (hm _),d0_true,Bool.and_self,cond_true,mid_get,blt_true (hm _),mid_set,wrap_succ (hm (avTerm x)) (by simp;omega),ez,a0,b0,f0,w0,s122 (k) (by omega),a1,b1,f1,w1,a2,b2,f2,w2,em,Option.bind_some,Bool.not_false,Bool.true_and,Bool.and_true,bnd_eq,ih]
   have q:(k+1+1+1:Int)=k+((cntTerm x:Nat):Int):=by simp only [cntTerm];omega
   have r:(k+1+1+1:Int)+((cntTermS xs:Nat):Int)=k+((cntTerm x+cntTermS xs:Nat):Int):=by simp only [cntTerm];omega
   rw [show mkTermS k (x::xs)=(mkTerm k x)::mkTermS (k+((cntTerm x:Nat):Int)) xs from rfl,←q,show cntTermS (x::xs)=cntTerm x+cntTermS xs from rfl,r]
   rfl
theorem mrTermS (xs:List TermD) (k:Int) (hl:szTermS xs≤1048576) (h1:0≤k) (h2:k+(cntTermS xs:Nat)≤90000000000):Fl_markTermS k (xs.map avTerm)=some (k+(cntTermS xs:Nat),(mkTermS k xs).map avTerm):=by
 refine ul_markTermS _ _ ?_
 have e:=mrTermS_0 xs [] k (by unfold szTermS at hl;simp;omega) h1 h2
 simp only [List.nil_append,List.length_nil,Int.natCast_zero] at e
 simp [e]
noncomputable def mkStringS:Int→List ByteArray→List ByteArray
 | _,[]=>[]
 | k,_::r=>(mt k)::mkStringS (k+1) r
theorem mkStringS_len : ∀(k:Int) (xs:List ByteArray),(mkStringS k xs).length=xs.length
 | _,[]=>rfl
 | k,x::r=>by simp [mkStringS,mkStringS_len]
theorem mrStringS_0 : ∀(xs:List ByteArray) (pre:List AVal) (k:Int),pre.length+xs.length≤1048576→0≤k→k+(xs.length:Nat)≤90000000000→Ll_markStringS_0 k (pre.length:Int) (pre++xs.map sv)=some (k+(xs.length:Nat),pre++(mkStringS k xs).map sv)
 | [],pre,k,hl,h1,h2=>by
   refine ll_markStringS_0 _ _ _ ?_
   simp [mkStringS]
 | x::xs,pre,k,hl,h1,h2=>by
   simp only [List.length_cons] at h2
   simp only [List.length_cons] at hl
   have ih:=mrStringS_0 xs (pre++[sv (mt k)]) (k+1) (by simp;omega) (by omega) (by omega)
   simp only [List.append_assoc,List.cons_append,List.nil_append,List.length_append,List.length_cons,List.length_nil,Nat.zero_add] at ih
   have hm : ∀y:AVal,pre.length<(pre++y::xs.map sv).length:=fun y=>mid_len pre (xs.map sv) y
   have e2:aggQ (sv x)=false:=rfl
   have ew:IntKind.wrap .i64 (k+1)=k+1:=wrap64 (by omega) (by omega)
   have e3:AVal.str (mt k)=sv (mt k):=rfl
   refine ll_markStringS_0 _ _ _ ?_
   simp only [List.map_cons,Int.toNat_natCast,dlt_true (hm _),d0_true,Bool.and_self,cond_true,mid_get,blt_true (hm _),mid_set,wrap_succ (hm (sv x)) (by simp;omega),s122 k (by omega),e2,e3,ew,Bool.not_false,Option.bind_some,ih]
   rw [show mkStringS k (x::xs)=(mt k)::mkStringS (k+1) xs from rfl,show (x::xs).length=xs.length+1 from rfl,show (k+1+(xs.length:Int))=k+((xs.length+1:Nat):Int) by omega]
   rfl
theorem mrStringS (xs:List ByteArray) (k:Int) (hl:szStringS xs≤1048576) (h1:0≤k) (h2:k+(xs.length:Nat)≤90000000000):Fl_markStringS k (xs.map sv)=some (k+(xs.length:Nat),(mkStringS k xs).map sv):=by
 refine ul_markStringS _ _ ?_
 have e:=mrStringS_0 xs [] k (by unfold szStringS at hl;simp;omega) h1 h2
 simp only [List.nil_append,List.length_nil,Int.natCast_zero] at e
 simp [e]
def mkIntS (k:Int) (xs:List Int):List Int:=seqI k xs.length
theorem mrIntS (xs:List Int) (k:Int) (hl:xs.length≤1048576) (h1:0≤k) (h2:k+(xs.length:Nat)≤90000000000):Fl_markIntS k (xs.map iv)=some (k+(xs.length:Nat),(mkIntS k xs).map iv):=by
 refine ul_markIntS _ _ ?_
 have e:=s26_0 xs [] k (by simp;omega) h1 (by omega)
 simp only [List.nil_append,List.length_nil,Int.natCast_zero] at e
 simp [e,mkIntS,marks_seq]
def cntProd (x:ProdD):Nat:=1+x.2.1.length+1+1+1
noncomputable def mkProd (k:Int) (x:ProdD):ProdD:=(k,mkIntS (k+1) x.2.1,(mt (k+1+(x.2.1.length:Nat))),k+1+(x.2.1.length:Nat)+1,k+1+(x.2.1.length:Nat)+1+1)
def cntProdS:List ProdD→Nat
 | []=>0
 | x::r=>cntProd x+cntProdS r
noncomputable def mkProdS:Int→List ProdD→List ProdD
 | _,[]=>[]
 | k,x::r=>mkProd k x::mkProdS (k+(cntProd x:Nat)) r
theorem mkProdS_len : ∀(k:Int) (xs:List ProdD),(mkProdS k xs).length=xs.length
 | _,[]=>rfl
 | k,x::r=>by simp [mkProdS,mkProdS_len]
theorem mrProdS_0 : ∀(xs:List ProdD) (pre:List AVal) (k:Int),pre.length+xs.length≤1048576→szProdS xs≤1048576→0≤k→k+(cntProdS xs:Nat)≤90000000000→Ll_markProdS_0 k (pre.length:Int) (pre++xs.map aoProd)=some (k+(cntProdS xs:Nat),pre++(mkProdS k xs).map aoProd)
 | [],pre,k,hl,hb,h1,h2=>by
   refine ll_markProdS_0 _ _ _ ?_
   simp [mkProdS,cntProdS]
 | x::xs,pre,k,hl,hb,h1,h2=>by
   simp only [cntProdS,cntProd,List.length_cons] at h2
   simp only [szProdS,totProd,List.length_cons,szProd] at hb
   simp only [List.length_cons] at hl
   have ih:=mrProdS_0 xs (pre++[aoProd (mkProd k x)]) (k+1+(x.2.1.length:Nat)+1+1+1) (by simp;omega) (by simp only [szProdS];omega) (by omega) (by omega)
   simp only [List.append_assoc,List.cons_append,List.nil_append,List.length_append,List.length_cons,List.length_nil,Nat.zero_add] at ih
   have hm : ∀y:AVal,pre.length<(pre++y::xs.map aoProd).length:=fun y=>mid_len pre (xs.map aoProd) y
   have ez:aoProd x=aoProd (x.1,x.2.1,x.2.2.1,x.2.2.2.1,x.2.2.2.2):=rfl
   have a0:aggQ (aoProd (x.1,x.2.1,x.2.2.1,x.2.2.2.1,x.2.2.2.2))=true:=rfl
   have b0:Nat.ble 1 (aoProd (x.1,x.2.1,x.2.2.1,x.2.2.2.1,x.2.2.2.2)).cells.length=true:=rfl
   have f0:AVal.agg (setMany (aoProd (x.1,x.2.1,x.2.2.1,x.2.2.2.1,x.2.2.2.2)).cells 0 [.int .i64 k])=aoProd (k,x.2.1,x.2.2.1,x.2.2.2.1,x.2.2.2.2):=rfl
   have w0:IntKind.wrap .i64 (k+1)=k+1:=wrap64 (by omega) (by omega)
   have a1:(aoProd (k,x.2.1,x.2.2.1,x.2.2.2.1,x.2.2.2.2)).okg [1]=true:=rfl
   have aa1:aggQ (aoProd (k,x.2.1,x.2.2.1,x.2.2.2.1,x.2.2.2.2))=true:=rfl
   have ab1:CT.shape (.slice 1) ((aoProd (k,x.2.1,x.2.2.1,x.2.2.2.1,x.2.2.2.2)).get [1])=true:=rfl
   have ac1:(aoProd (k,x.2.1,x.2.2.1,x.2.2.2.1,x.2.2.2.2)).okp [1]=true:=rfl
   have ad1:lend.isOwn ((aoProd (k,x.2.1,x.2.2.1,x.2.2.2.1,x.2.2.2.2)).get [1])=true:=rfl
   have ae1:CT.shOwn (.slice 1) ((aoProd (k,x.2.1,x.2.2.1,x.2.2.2.1,x.2.2.2.2)).get [1])=true:=rfl
   have af1:((aoProd (k,x.2.1,x.2.2.1,x.2.2.2.1,x.2.2.2.2)).get [1]).elems=x.2.1.map iv:=rfl
   have ag1:((aoProd (k,x.2.1,x.2.2.1,x.2.2.2.1,x.2.2.2.2)).put [1] .und).okp [1]=true:=rfl
   have ah1:aggQ (((aoProd (k,x.2.1,x.2.2.1,x.2.2.2.1,x.2.2.2.2)).put [1] .und).get [1])=false:=rfl
   have ai1:(((aoProd (k,x.2.1,x.2.2.1,x.2.2.2.1,x.2.2.2.2)).put [1] .und).put [1] (.own 1 ((mkIntS (k+1) x.2.1).map iv)))=aoProd (k,mkIntS (k+1) x.2.1,x.2.2.1,x.2.2.2.1,x.2.2.2.2):=rfl
   have am1:=mrIntS x.2.1 (k+1) (by omega) (by omega) (by omega)
   have a2:aggQ (aoProd (k,mkIntS (k+1) x.2.1,x.2.2.1,x.2.2.2.1,x.2.2.2.2))=true:=rfl
   have b2:Nat.ble 3 (aoProd (k,mkIntS (k+1) x.2.1,x.2.2.1,x.2.2.2.1,x.2.2.2.2)).cells.length=true:=rfl
   have f2:AVal.agg (setMany (aoProd (k,mkIntS (k+1) x.2.1,x.2.2.1,x.2.2.2.1,x.2.2.2.2)).cells 2 [.str (mt (k+1+(x.2.1.length:Nat)))])=aoProd (k,mkIntS (k+1) x.2.1,(mt (k+1+(x.2.1.length:Nat))),x.2.2.2.1,x.2.2.2.2):=rfl
   have w2:IntKind.wrap .i64 (k+1+(x.2.1.length:Nat)+1)=k+1+(x.2.1.length:Nat)+1:=wrap64 (by omega) (by omega)
   have a3:aggQ (aoProd (k,mkIntS (k+1) x.2.1,(mt (k+1+(x.2.1.length:Nat))),x.2.2.2.1,x.2.2.2.2))=true:=rfl
   have b3:Nat.ble 4 (aoProd (k,mkIntS (k+1) x.2.1,(mt (k+1+(x.2.1.length:Nat))),x.2.2.2.1,x.2.2.2.2)).cells.length=true:=rfl
   have f3:AVal.agg (setMany (aoProd (k,mkIntS (k+1) x.2.1,(mt (k+1+(x.2.1.length:Nat))),x.2.2.2.1,x.2.2.2.2)).cells 3 [.int .i64 (k+1+(x.2.1.length:Nat)+1)])=aoProd (k,mkIntS (k+1) x.2.1,(mt (k+1+(x.2.1.length:Nat))),k+1+(x.2.1.length:Nat)+1,x.2.2.2.2):=rfl
   have w3:IntKind.wrap .i64 (k+1+(x.2.1.length:Nat)+1+1)=k+1+(x.2.1.length:Nat)+1+1:=wrap64 (by omega) (by omega)
   have a4:aggQ (aoProd (k,mkIntS (k+1) x.2.1,(mt (k+1+(x.2.1.length:Nat))),k+1+(x.2.1.length:Nat)+1,x.2.2.2.2))=true:=rfl
   have b4:Nat.ble 5 (aoProd (k,mkIntS (k+1) x.2.1,(mt (k+1+(x.2.1.length:Nat))),k+1+(x.2.1.length:Nat)+1,x.2.2.2.2)).cells.length=true:=rfl
   have f4:AVal.agg (setMany (aoProd (k,mkIntS (k+1) x.2.1,(mt (k+1+(x.2.1.length:Nat))),k+1+(x.2.1.length:Nat)+1,x.2.2.2.2)).cells 4 [.int .i64 (k+1+(x.2.1.length:Nat)+1+1)])=aoProd (k,mkIntS (k+1) x.2.1,(mt (k+1+(x.2.1.length:Nat))),k+1+(x.2.1.length:Nat)+1,k+1+(x.2.1.length:Nat)+1+1):=rfl
   have w4:IntKind.wrap .i64 (k+1+(x.2.1.length:Nat)+1+1+1)=k+1+(x.2.1.length:Nat)+1+1+1:=wrap64 (by omega) (by omega)
   have em:aoProd (k,mkIntS (k+1) x.2.1,(mt (k+1+(x.2.1.length:Nat))),k+1+(x.2.1.length:Nat)+1,k+1+(x.2.1.length:Nat)+1+1)=aoProd (mkProd k x):=rfl
   refine ll_markProdS_0 _ _ _ ?_
   simp only [List.map_cons,Int.toNat_natCast,dlt_true (hm _),d0_true,Bool.and_self,cond_true,mid_get,blt_true (hm _),mid_set,wrap_succ (hm (aoProd x)) (by simp;omega),ez,a0,b0,f0,w0,a1,aa1,ab1,ac1,ad1,ae1,af1,ag1,ah1,ai1,am1,a2,b2,f2,w2,s122 (k+1+(x.2.1.length:Nat)) (by omega),a3,b3,f3,w3,a4,b4,f4,w4,em,Option.bind_some,Bool.not_false,Bool.true_and,Bool.and_true,bnd_eq,ih]
   have q:(k+1+(x.2.1.length:Nat)+1+1+1:Int)=k+((cntProd x:Nat):Int):=by simp only [cntProd];omega
   have r:(k+1+(x.2.1.length:Nat)+1+1+1:Int)+((cntProdS xs:Nat):Int)=k+((cntProd x+cntProdS xs:Nat):Int):=by simp only [cntProd];omega
   rw [show mkProdS k (x::xs)=(mkProd k x)::mkProdS (k+((cntProd x:Nat):Int)) xs from rfl,←q,show cntProdS (x::xs)=cntProd x+cntProdS xs from rfl,r]
   rfl
theorem mrProdS (xs:List ProdD) (k:Int) (hl:szProdS xs≤1048576) (h1:0≤k) (h2:k+(cntProdS xs:Nat)≤90000000000):Fl_markProdS k (xs.map aoProd)=some (k+(cntProdS xs:Nat),(mkProdS k xs).map aoProd):=by
 refine ul_markProdS _ _ ?_
 have e:=mrProdS_0 xs [] k (by unfold szProdS at hl;simp;omega) hl h1 h2
 simp only [List.nil_append,List.length_nil,Int.natCast_zero] at e
 simp [e]
def cntBnf (x:BnfD):Nat:=cntTermS x.1+x.2.1.length+1+cntProdS x.2.2.2
noncomputable def mkBnf (k:Int) (x:BnfD):BnfD:=(mkTermS k x.1,mkStringS (k+(cntTermS x.1:Nat)) x.2.1,k+(cntTermS x.1:Nat)+(x.2.1.length:Nat),mkProdS (k+(cntTermS x.1:Nat)+(x.2.1.length:Nat)+1) x.2.2.2)
theorem mrBnf (x:BnfD) (k:Int) (h:szBnf x≤1048576) (h1:0≤k) (h2:k+(cntTermS x.1:Nat)+(x.2.1.length:Nat)+(cntProdS x.2.2.2:Nat)≤90000000000):Fl_markBnf x.2.2.1 k (x.1.map avTerm) (x.2.1.map sv) (x.2.2.2.map aoProd)=some (k+(cntTermS x.1:Nat)+(x.2.1.length:Nat)+(cntProdS x.2.2.2:Nat),((mkTermS k x.1).map avTerm),((mkStringS (k+(cntTermS x.1:Nat)) x.2.1).map sv),((mkProdS (k+(cntTermS x.1:Nat)+(x.2.1.length:Nat)) x.2.2.2).map aoProd)):=by
 unfold szBnf at h
 refine ul_markBnf _ _ _ _ _ ?_
 simp only [mrTermS x.1 k (by omega) (by omega) (by omega),mrStringS x.2.1 (k+(cntTermS x.1:Nat)) (by omega) (by omega) (by omega),mrProdS x.2.2.2 (k+(cntTermS x.1:Nat)+(x.2.1.length:Nat)) (by omega) (by omega) (by omega),Option.bind_some]
end Go.Proofs.Ytgoaegbddpmiiaa
