/- Plain data of the program, and what the helpers of the laws do to it: sizes, copies, equality; where it is not too large. -/
import Derived.Test.YtnbpmjfemeeecaaUx
import Derived.Test.YtnbpmjfemeeecaaTLayout
namespace Go.Proofs.Ytnbpmjfemeeecaa
open Go.VK AVal
def sv (s:ByteArray):AVal:=.str s
def bv (b:Bool):AVal:=.bool b
theorem asRo_sv (s:ByteArray):asRo (sv s)=sv s:=by simp [sv,asRo]
theorem noRo_sv (s:ByteArray):noRo (sv s)=true:=by simp [sv,noRo]
theorem asRo_bv (s:Bool):asRo (bv s)=bv s:=by simp [bv,asRo]
theorem noRo_bv (s:Bool):noRo (bv s)=true:=by simp [bv,noRo]
theorem asRoL_map2 {α:Type} {f g:α→AVal} (hf : ∀x,asRo (f x)=g x) : ∀xs:List α,asRoL (xs.map f)=xs.map g
 | []=>by simp [asRoL]
 | x::xs=>by simp only [List.map_cons,asRoL,hf,asRoL_map2 hf xs]
theorem szR_len {l:Int} {s:Nat} (h0:0≤l) (h1:l≤1048576) (hs:s≤maxLen):(decide (IntKind.wrap .i64 (l-(s:Int))<0)=decide (szR l s<0))∧(¬szR l s<0→IntKind.wrap .i64 (l-(s:Int))=szR l s):=by
 unfold maxLen at hs
 rw [wrap64 (by omega) (by omega)]
 unfold szR
 by_cases g:l<(s:Int)
 · have:l-(s:Int)<0:=by omega
   simp [g,this]
 · have : ¬l-(s:Int)<0:=by omega
   simp [g,this]
theorem szR_zero {l:Int} (h:0≤l):szR l 0=l:=by unfold szR;split <;> omega
theorem capB_8 {n b:Nat} (h:n≤1048576) (hb:b≤1000):capB n b=true:=capB_le (Nat.le_trans (Nat.mul_le_mul h hb) (by omega))
def seqI:Int→Nat→List Int
 | _,0=>[]
 | k,n+1=>k::seqI (k+1) n
theorem seqI_len : ∀(k:Int) (n:Nat),(seqI k n).length=n
 | _,0=>rfl
 | k,n+1=>by simp [seqI,seqI_len]
theorem marks_seq : ∀(k:Int) (n:Nat),marks k n=(seqI k n).map iv
 | _,0=>rfl
 | k,n+1=>by simp [seqI,marks,marks_seq]
def avIntS (xs:List Int):AVal:=.ro false 1 (xs.map iv)
def aoIntS (xs:List Int):AVal:=.own 1 (xs.map iv)
theorem asRo_IntS (xs:List Int):asRo (aoIntS xs)=avIntS xs:=by simp only [aoIntS,avIntS,asRo,asRoL_map2 asRo_iv]
theorem noRo_IntS (xs:List Int):noRo (aoIntS xs)=true:=by simp only [aoIntS,noRo,noRoL_map noRo_iv]
theorem tzIntS (xs:List Int) (l:Int) (hl:xs.length≤maxLen) (h0:0≤l) (h1:l≤1048576):Fl_szIntS (xs.map iv) l=some (szR l xs.length):=by
 unfold maxLen at hl
 refine ul_szIntS _ _ ?_
 have e:IntKind.wrap .i64 (l-(xs.length:Int))=l-(xs.length:Int):=wrap64 (by omega) (by omega)
 unfold szR
 by_cases g:l<(xs.length:Int)
 · have:l-(xs.length:Int)<0:=by omega
   simp [e,g,this]
 · have : ¬l-(xs.length:Int)<0:=by omega
   simp [e,g,this]
theorem toIntS_0 (xs:List Int) (hb:xs.length≤1048576) : ∀n i:Nat,i+n=xs.length→Ll_toIntS_0 (xs.map iv) (i:Int) (filled iv (iv 0) xs i)=some (xs.map iv)
 | 0,i,h=>by
   refine ll_toIntS_0 _ _ _ ?_
   obtain rfl:i=xs.length:=by omega
   simp [filled_all]
 | n+1,i,h=>by
   have hl:=hb
   have hi:i<xs.length:=by omega
   have ih:=toIntS_0 xs hb n (i+1) (by omega)
   have e1:CT.shape (.int .i64) (iv xs[i])=true:=rfl
   have e2:aggQ (iv 0)=false:=rfl
   have e3:AVal.int .i64 (iv xs[i]).toInt=iv xs[i]:=rfl
   refine ll_toIntS_0 _ _ _ ?_
   simp only [List.length_map,Int.toNat_natCast,dlt_true hi,d0_true,Bool.and_self,cond_true,getD_map iv hi,filled_len iv (iv 0) (Nat.le_of_lt hi),filled_get iv (iv 0) hi,blt_true hi,wrap_succ hi (by omega),e1,e2,e3,Bool.not_false,filled_set iv (iv 0) hi,ih]
theorem toIntS (xs:List Int) (hb:xs.length≤1048576):Fl_toIntS (xs.map iv)=some (xs.map iv):=by
 have hl:=hb
 refine ul_toIntS _ ?_
 have e:=toIntS_0 xs hb xs.length 0 (by omega)
 rw [filled_zero] at e
 have h0:(0:Int)≤(xs.length:Int):=by omega
 simp only [Int.natCast_zero] at e
 simp only [List.length_map,Int.toNat_natCast,h0,Int.le_refl,capB_8 (b:=8) hl (by omega),decide_true,Bool.and_self,cond_true,bnd_eq]
 rw [show (.int .i64 0:AVal)=(iv 0) from rfl,e];rfl
theorem eqIntS_0 (xs:List Int) (hb:xs.length≤1048576) : ∀n i:Nat,i+n=xs.length→Ll_eqIntS_0 (xs.map iv) (xs.map iv) (i:Int)=some (.inr ())
 | 0,i,h=>by
   refine ll_eqIntS_0 _ _ _ ?_
   simp [show ¬i<xs.length by omega]
 | n+1,i,h=>by
   have hl:=hb
   have hi:i<xs.length:=by omega
   have ih:=eqIntS_0 xs hb n (i+1) (by omega)
   have e1:CT.shape (.int .i64) (iv xs[i])=true:=rfl
   refine ll_eqIntS_0 _ _ _ ?_
   simp only [List.length_map,Int.toNat_natCast,dlt_true hi,d0_true,Bool.and_self,cond_true,cond_false,getD_map iv hi,wrap_succ hi (by omega),e1,decide_true,beq_self_eq_true,Bool.not_true,ih]
theorem eqIntS (xs:List Int) (hb:xs.length≤1048576):Fl_eqIntS (xs.map iv) (xs.map iv)=some true:=by
 refine ul_eqIntS _ _ ?_
 have e:=eqIntS_0 xs hb xs.length 0 (by omega)
 simp only [Int.natCast_zero] at e
 simp [e]
theorem fitIntS : ∀{xs:List AVal},(∀y∈xs,Fits ctx ty_int y) → ∃ns:List Int,xs=ns.map iv
 | [],_=>⟨[],rfl⟩
 | y::ys,h=>by
   obtain ⟨x,rfl,_⟩:=(h y (by simp)).int' (k:=.i64) (by kernel_rfl)
   obtain ⟨ns,rfl⟩:=fitIntS (xs:=ys) fun z hz=>h z (by simp [hz])
   exact ⟨x::ns,rfl⟩
abbrev LNodeD:=Int×ByteArray×Int×List Int
def avLNode (x:LNodeD):AVal:=.agg [.int .i64 x.1,.str x.2.1,.int .i64 x.2.2.1,.ro false 1 (x.2.2.2.map iv)]
def aoLNode (x:LNodeD):AVal:=.agg [.int .i64 x.1,.str x.2.1,.int .i64 x.2.2.1,.own 1 (x.2.2.2.map iv)]
theorem asRo_LNode (x:LNodeD):asRo (aoLNode x)=avLNode x:=by simp only [aoLNode,avLNode,asRo,asRoL,asRoL_map2 asRo_iv]
theorem noRo_LNode (x:LNodeD):noRo (aoLNode x)=true:=by simp only [aoLNode,noRo,noRoL,noRoL_map noRo_iv,Bool.and_self]
theorem sh_LNode (x:LNodeD):shapes [.int .i64,.str,.int .i64,.slice 1] (((avLNode x).cells.drop 0).take 4)=true:=rfl
theorem c0_LNode (x:LNodeD):((avLNode x).cell 0).toInt=x.1:=rfl
theorem p0_LNode (x:LNodeD):CT.shape (.int .i64) ((avLNode x).cell 0)=true:=rfl
theorem c1_LNode (x:LNodeD):((avLNode x).cell 1).toStr=x.2.1:=rfl
theorem p1_LNode (x:LNodeD):CT.shape (.str) ((avLNode x).cell 1)=true:=rfl
theorem c2_LNode (x:LNodeD):((avLNode x).cell 2).toInt=x.2.2.1:=rfl
theorem p2_LNode (x:LNodeD):CT.shape (.int .i64) ((avLNode x).cell 2)=true:=rfl
theorem c3_LNode (x:LNodeD):((avLNode x).cell 3).elems=x.2.2.2.map iv:=rfl
theorem p3_LNode (x:LNodeD):CT.shape (.slice 1) ((avLNode x).cell 3)=true:=rfl
def szLNode (x:LNodeD):Nat:=x.2.1.size+x.2.2.2.length
def wfLNode (x:LNodeD):Prop:=(x.2.1.size≤maxLen)∧(x.2.2.2.length≤maxLen)
theorem tzLNode (x:LNodeD) (l:Int) (hw:wfLNode x) (h0:0≤l) (h1:l≤1048576):Fl_szLNode x.1 x.2.1 x.2.2.1 (x.2.2.2.map iv) l=some (szR l (szLNode x)):=by
 unfold wfLNode at hw
 unfold szLNode
 refine ul_szLNode _ _ _ _ _ ?_
 obtain ⟨w0,w1⟩:=hw
 have b0:0≤l∧l≤1048576:=by exact ⟨h0,h1⟩
 obtain ⟨e0,e0'⟩:=szR_len b0.1 b0.2 w0
 by_cases g0:szR l (x.2.1.size)<0
 · simp only [e0,g0,decide_true,cond_true]
   rw [show szR l (x.2.1.size+x.2.2.2.length) = -1 from by rw [show x.2.1.size+x.2.2.2.length=(x.2.1.size)+(x.2.2.2.length) by omega];exact szR_over g0 h0]
 have b1:0≤szR l (x.2.1.size)∧szR l (x.2.1.size)≤1048576:=by have:=szR_le _ _ g0;omega
 have e1:=tzIntS x.2.2.2 (szR l (x.2.1.size)) w1 b1.1 b1.2
 rw [szR_step g0] at e1
 by_cases g1:szR l (x.2.1.size+x.2.2.2.length)<0
 · simp only [e0,g0,decide_false,cond_false,e0' g0,e1,g1,Option.bind_some,decide_true,cond_true]
   rw [szR_m1 g1 h0]
 simp only [e0,g0,decide_false,cond_false,e0' g0,e1,g1,Option.bind_some]
theorem toLNode (x:LNodeD) (h:szLNode x≤1048576):Fl_toLNode x.1 x.2.1 x.2.2.1 (x.2.2.2.map iv)=some (x.1,x.2.1,x.2.2.1,(x.2.2.2.map iv)):=by
 unfold szLNode at h
 refine ul_toLNode _ _ _ _ ?_
 simp only [toIntS x.2.2.2 (by omega),Option.bind_some]
theorem eqLNode (x:LNodeD) (h:szLNode x≤1048576):Fl_eqLNode x.1 x.2.1 x.2.2.1 (x.2.2.2.map iv) x.1 x.2.1 x.2.2.1 (x.2.2.2.map iv)=some true:=by
 unfold szLNode at h
 refine ul_eqLNode _ _ _ _ _ _ _ _ ?_
 simp only [eqIntS x.2.2.2 (by omega),Option.bind_some,decide_true,beq_self_eq_true,Bool.not_true,cond_false]
theorem fitLNode {y:AVal} (h:Fits ctx ty_laws_LNode y) : ∃x:LNodeD,y=avLNode x∧wfLNode x:=by
 obtain ⟨fs,rfl,g⟩:=h.struct' (us:=[ty_int,ty_string,ty_int,ty_S_int]) (by kernel_rfl)
 obtain ⟨v0,r,rfl,g0,g⟩:=g.cons'
 obtain ⟨v1,r,rfl,g1,g⟩:=g.cons'
 obtain ⟨v2,r,rfl,g2,g⟩:=g.cons'
 obtain ⟨v3,r,rfl,g3,g⟩:=g.cons'
 obtain rfl:=g.nil'
 obtain ⟨a0,rfl,_⟩:=g0.int' (k:=.i64) (by kernel_rfl)
 obtain ⟨a1,rfl,w1⟩:=g1.str' (by kernel_rfl)
 obtain ⟨a2,rfl,_⟩:=g2.int' (k:=.i64) (by kernel_rfl)
 obtain ⟨x3,rfl,l3,q3⟩:=g3.slice' (sz:=1) (e:=ty_int) (by kernel_rfl)
 obtain ⟨a3,rfl⟩:=fitIntS q3
 rw [List.length_map] at l3
 exact ⟨(a0,a1,a2,a3),rfl,⟨w1,l3⟩⟩
def totLNode:List LNodeD→Nat
 | []=>0
 | x::r=>szLNode x+totLNode r
theorem totLNode_mem : ∀{xs:List LNodeD} {x:LNodeD},x∈xs→szLNode x≤totLNode xs
 | [],x,h=>by simp at h
 | y::r,x,h=>by
   simp only [List.mem_cons] at h
   simp only [totLNode]
   rcases h with rfl|h
   · omega
   · have:=totLNode_mem h;omega
def szLNodeS (xs:List LNodeD):Nat:=xs.length+totLNode xs
def avLNodeS (xs:List LNodeD):AVal:=.ro false 4 (xs.map avLNode)
def aoLNodeS (xs:List LNodeD):AVal:=.own 4 (xs.map aoLNode)
theorem asRo_LNodeS (xs:List LNodeD):asRo (aoLNodeS xs)=avLNodeS xs:=by simp only [aoLNodeS,avLNodeS,asRo,asRoL_map2 asRo_LNode]
theorem noRo_LNodeS (xs:List LNodeD):noRo (aoLNodeS xs)=true:=by simp only [aoLNodeS,noRo,noRoL_map noRo_LNode]
theorem tzLNodeS_0 : ∀(xs pre:List LNodeD) (l:Int),(pre++xs).length≤1048576→(∀y∈xs,wfLNode y)→0≤l→l≤1048576→Ll_szLNodeS_0 ((pre++xs).map avLNode) l (pre.length:Int)=some (if szR l (totLNode xs)<0 then .inl (-1) else .inr (szR l (totLNode xs)))
 | [],pre,l,hl,hx,h0,h1=>by
   refine ll_szLNodeS_0 _ _ _ ?_
   have : ¬l<0:=by omega
   simp [totLNode,szR_zero h0,this]
 | x::xs,pre,l,hl,hx,h0,h1=>by
   have hm:=mid_len pre xs x
   rw [show totLNode (x::xs)=szLNode x+totLNode xs from rfl]
   refine ll_szLNodeS_0 _ _ _ ?_
   simp only [Int.toNat_natCast,List.length_map,dlt_true hm,d0_true,Bool.and_self,cond_true,map_mid,sh_LNode,c0_LNode,c1_LNode,c2_LNode,c3_LNode,tzLNode x l (hx x (by simp)) h0 h1,Option.bind_some,wrap_succ hm (by omega)]
   by_cases g:szR l (szLNode x)<0
   · simp only [g,szR_over g h0,decide_true,cond_true,show ((-1:Int)<0) from by omega,if_true]
   · have b:=szR_le _ _ g
     have ih:=tzLNodeS_0 xs (pre++[x]) (szR l (szLNode x)) (by simpa using hl) (fun y hy=>hx y (by simp [hy])) b.1 (by omega)
     simp only [List.append_assoc,List.cons_append,List.nil_append,show ∀x:LNodeD,(pre++[x]).length=pre.length+1 from fun x=>by simp] at ih
     rw [szR_step g] at ih
     by_cases g2:szR l (szLNode x+totLNode xs)<0
     · rw [if_pos g2] at ih ⊢
       simp only [g,decide_false,cond_false,ih]
     · rw [if_neg g2] at ih ⊢
       simp only [g,decide_false,cond_false,ih]
theorem tzLNodeS (xs:List LNodeD) (l:Int) (hw:xs.length≤maxLen ∧ ∀y∈xs,wfLNode y) (h0:0≤l) (h1:l≤1048576):Fl_szLNodeS (xs.map avLNode) l=some (szR l (szLNodeS xs)):=by
 obtain ⟨q1,q2⟩:=szR_len h0 h1 hw.1
 unfold szLNodeS
 refine ul_szLNodeS _ _ ?_
 simp only [List.length_map,q1]
 by_cases g:szR l xs.length<0
 · simp only [g,szR_over g h0,decide_true,cond_true]
 · have b:=szR_le _ _ g
   have hn:=szR_nn g
   have e:=tzLNodeS_0 xs [] (szR l xs.length) (by simpa using (by omega:xs.length≤1048576)) hw.2 b.1 (by omega)
   simp only [List.nil_append,List.length_nil,Int.natCast_zero,szR_step g] at e
   by_cases g2:szR l (xs.length+totLNode xs)<0
   · rw [if_pos g2] at e
     simp only [g,decide_false,cond_false,q2 g,e,Option.bind_some,Sum.elim_inl,szR_m1 g2 h0]
   · rw [if_neg g2] at e
     simp only [g,decide_false,cond_false,q2 g,e,Option.bind_some,Sum.elim_inr]
theorem toLNodeS_0 (xs:List LNodeD) (hb:szLNodeS xs≤1048576) : ∀n i:Nat,i+n=xs.length→Ll_toLNodeS_0 (xs.map avLNode) (i:Int) (filled aoLNode (aoLNode (0,ByteArray.empty,0,[])) xs i)=some (xs.map aoLNode)
 | 0,i,h=>by
   refine ll_toLNodeS_0 _ _ _ ?_
   obtain rfl:i=xs.length:=by omega
   simp [filled_all]
 | n+1,i,h=>by
   have hl:xs.length≤1048576:=by unfold szLNodeS at hb;omega
   have hi:i<xs.length:=by omega
   have ih:=toLNodeS_0 xs hb n (i+1) (by omega)
   have e2:aggQ (aoLNode (0,ByteArray.empty,0,[]))=true:=rfl
   have e4:Nat.ble 4 (aoLNode (0,ByteArray.empty,0,[])).cells.length=true:=rfl
   have e3:AVal.agg (setMany (aoLNode (0,ByteArray.empty,0,[])).cells 0 [.int .i64 xs[i].1,.str xs[i].2.1,.int .i64 xs[i].2.2.1,.own 1 (xs[i].2.2.2.map iv)])=aoLNode xs[i]:=rfl
   have hz:szLNode xs[i]≤1048576:=by have:=totLNode_mem (List.getElem_mem hi);unfold szLNodeS at hb;omega
   refine ll_toLNodeS_0 _ _ _ ?_
   simp only [List.length_map,Int.toNat_natCast,dlt_true hi,d0_true,Bool.and_self,cond_true,getD_map avLNode hi,filled_len aoLNode (aoLNode (0,ByteArray.empty,0,[])) (Nat.le_of_lt hi),filled_get aoLNode (aoLNode (0,ByteArray.empty,0,[])) hi,blt_true hi,wrap_succ hi (by omega),sh_LNode,c0_LNode,c1_LNode,c2_LNode,c3_LNode,toLNode xs[i] hz,Option.bind_some,e2,e4,e3,bnd_eq,filled_set aoLNode (aoLNode (0,ByteArray.empty,0,[])) hi,ih]
theorem toLNodeS (xs:List LNodeD) (hb:szLNodeS xs≤1048576):Fl_toLNodeS (xs.map avLNode)=some (xs.map aoLNode):=by
 have hl:xs.length≤1048576:=by unfold szLNodeS at hb;omega
 refine ul_toLNodeS _ ?_
 have e:=toLNodeS_0 xs hb xs.length 0 (by omega)
 rw [filled_zero] at e
 have h0:(0:Int)≤(xs.length:Int):=by omega
 simp only [Int.natCast_zero] at e
 simp only [List.length_map,Int.toNat_natCast,h0,Int.le_refl,capB_8 (b:=56) hl (by omega),decide_true,Bool.and_self,cond_true,bnd_eq]
 rw [show (.agg [.int .i64 0,.str ByteArray.empty,.int .i64 0,.own 1 []]:AVal)=(aoLNode (0,ByteArray.empty,0,[])) from rfl,e];rfl
theorem eqLNodeS_0 (xs:List LNodeD) (hb:szLNodeS xs≤1048576) : ∀n i:Nat,i+n=xs.length→Ll_eqLNodeS_0 (xs.map avLNode) (xs.map avLNode) (i:Int)=some (.inr ())
 | 0,i,h=>by
   refine ll_eqLNodeS_0 _ _ _ ?_
   simp [show ¬i<xs.length by omega]
 | n+1,i,h=>by
   have hl:xs.length≤1048576:=by unfold szLNodeS at hb;omega
   have hi:i<xs.length:=by omega
   have ih:=eqLNodeS_0 xs hb n (i+1) (by omega)
   have hz:szLNode xs[i]≤1048576:=by have:=totLNode_mem (List.getElem_mem hi);unfold szLNodeS at hb;omega
   refine ll_eqLNodeS_0 _ _ _ ?_
   simp only [List.length_map,Int.toNat_natCast,dlt_true hi,d0_true,Bool.and_self,cond_true,cond_false,getD_map avLNode hi,wrap_succ hi (by omega),sh_LNode,c0_LNode,c1_LNode,c2_LNode,c3_LNode,eqLNode xs[i] hz,Option.bind_some,Bool.not_true,ih]
theorem eqLNodeS (xs:List LNodeD) (hb:szLNodeS xs≤1048576):Fl_eqLNodeS (xs.map avLNode) (xs.map avLNode)=some true:=by
 refine ul_eqLNodeS _ _ ?_
 have e:=eqLNodeS_0 xs hb xs.length 0 (by omega)
 simp only [Int.natCast_zero] at e
 simp [e]
theorem fitLNodeS : ∀{xs:List AVal},(∀y∈xs,Fits ctx ty_laws_LNode y) → ∃ns:List LNodeD,xs=ns.map avLNode ∧ ∀x∈ns,wfLNode x
 | [],_=>⟨[],rfl,by simp⟩
 | y::ys,h=>by
   obtain ⟨x,rfl,hx⟩:=fitLNode (h y (by simp))
   obtain ⟨ns,rfl,hn⟩:=fitLNodeS (xs:=ys) fun z hz=>h z (by simp [hz])
   exact ⟨x::ns,rfl,fun z hz=>by rcases List.mem_cons.1 hz with rfl|hz;exact hx;exact hn z hz⟩
end Go.Proofs.Ytnbpmjfemeeecaa
