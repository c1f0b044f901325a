/- Plain data of the program, and what the helpers of the laws do to it: sizes, copies, equality; where it is not too large. -/
import Derived.Test.YtgoaegbddpmiiaaUx
import Derived.Test.YtgoaegbddpmiiaaTShortest
namespace Go.Proofs.Ytgoaegbddpmiiaa
open Go.VK AVal
def sv (s:ByteArray):AVal:=.str s
def bv (b:Bool):AVal:=.bool b
theorem asRo_sv (s:ByteArray):asRo (sv s)=sv s:=by simp [sv,asRo]
theorem noRo_sv (s:ByteArray):noRo (sv s)=true:=by simp [sv,noRo]
theorem asRo_bv (s:Bool):asRo (bv s)=bv s:=by simp [bv,asRo]
theorem noRo_bv (s:Bool):noRo (bv s)=true:=by simp [bv,noRo]
theorem asRoL_map2 {α:Type} {f g:α→AVal} (hf : ∀x,asRo (f x)=g x) : ∀xs:List α,asRoL (xs.map f)=xs.map g
 | []=>by simp [asRoL]
 | x::xs=>by simp only [List.map_cons,asRoL,hf,asRoL_map2 hf xs]
theorem szR_len {l:Int} {s:Nat} (h0:0≤l) (h1:l≤1048576) (hs:s≤maxLen):(decide (IntKind.wrap .i64 (l-(s:Int))<0)=decide (szR l s<0))∧(¬szR l s<0→IntKind.wrap .i64 (l-(s:Int))=szR l s):=by
 unfold maxLen at hs
 rw [wrap64 (by omega) (by omega)]
 unfold szR
 by_cases g:l<(s:Int)
 · have:l-(s:Int)<0:=by omega
   simp [g,this]
 · have : ¬l-(s:Int)<0:=by omega
   simp [g,this]
theorem szR_zero {l:Int} (h:0≤l):szR l 0=l:=by unfold szR;split <;> omega
theorem capB_8 {n b:Nat} (h:n≤1048576) (hb:b≤1000):capB n b=true:=capB_le (Nat.le_trans (Nat.mul_le_mul h hb) (by omega))
def seqI:Int→Nat→List Int
 | _,0=>[]
 | k,n+1=>k::seqI (k+1) n
theorem seqI_len : ∀(k:Int) (n:Nat),(seqI k n).length=n
 | _,0=>rfl
 | k,n+1=>by simp [seqI,seqI_len]
theorem marks_seq : ∀(k:Int) (n:Nat),marks k n=(seqI k n).map iv
 | _,0=>rfl
 | k,n+1=>by simp [seqI,marks,marks_seq]
abbrev TermD:=ByteArray×Int×Int
def avTerm (x:TermD):AVal:=.agg [.str x.1,.int .i64 x.2.1,.int .i64 x.2.2]
theorem asRo_Term (x:TermD):asRo (avTerm x)=avTerm x:=by simp only [avTerm,asRo,asRoL]
theorem noRo_Term (x:TermD):noRo (avTerm x)=true:=by simp only [avTerm,noRo,noRoL,Bool.and_self]
theorem sh_Term (x:TermD):shapes [.str,.int .i64,.int .i64] (((avTerm x).cells.drop 0).take 3)=true:=rfl
theorem c0_Term (x:TermD):((avTerm x).cell 0).toStr=x.1:=rfl
theorem p0_Term (x:TermD):CT.shape (.str) ((avTerm x).cell 0)=true:=rfl
theorem c1_Term (x:TermD):((avTerm x).cell 1).toInt=x.2.1:=rfl
theorem p1_Term (x:TermD):CT.shape (.int .i64) ((avTerm x).cell 1)=true:=rfl
theorem c2_Term (x:TermD):((avTerm x).cell 2).toInt=x.2.2:=rfl
theorem p2_Term (x:TermD):CT.shape (.int .i64) ((avTerm x).cell 2)=true:=rfl
def szTerm (x:TermD):Nat:=x.1.size
def wfTerm (x:TermD):Prop:=(x.1.size≤maxLen)
theorem tzTerm (x:TermD) (l:Int) (hw:wfTerm x) (h0:0≤l) (h1:l≤1048576):Fl_szTerm x.1 x.2.1 x.2.2 l=some (szR l (szTerm x)):=by
 unfold wfTerm at hw
 unfold szTerm
 refine ul_szTerm _ _ _ _ ?_
 have w0:=hw
 have b0:0≤l∧l≤1048576:=by exact ⟨h0,h1⟩
 obtain ⟨e0,e0'⟩:=szR_len b0.1 b0.2 w0
 by_cases g0:szR l (x.1.size)<0
 · simp only [e0,g0,decide_true,cond_true]
   rw [szR_m1 g0 h0]
 simp only [e0,g0,decide_false,cond_false,e0' g0]
theorem toTerm (x:TermD):Fl_toTerm x.1 x.2.1 x.2.2=some (x.1,x.2.1,x.2.2):=ul_toTerm _ _ _ rfl
theorem eqTerm (x:TermD):Fl_eqTerm x.1 x.2.1 x.2.2 x.1 x.2.1 x.2.2=some true:=ul_eqTerm _ _ _ _ _ _ (by simp only [decide_true,beq_self_eq_true,Bool.not_true,cond_false])
theorem fitTerm {y:AVal} (h:Fits ctx ty_laws_Term y) : ∃x:TermD,y=avTerm x∧wfTerm x:=by
 obtain ⟨fs,rfl,g⟩:=h.struct' (us:=[ty_string,ty_int,ty_int]) (by kernel_rfl)
 obtain ⟨v0,r,rfl,g0,g⟩:=g.cons'
 obtain ⟨v1,r,rfl,g1,g⟩:=g.cons'
 obtain ⟨v2,r,rfl,g2,g⟩:=g.cons'
 obtain rfl:=g.nil'
 obtain ⟨a0,rfl,w0⟩:=g0.str' (by kernel_rfl)
 obtain ⟨a1,rfl,_⟩:=g1.int' (k:=.i64) (by kernel_rfl)
 obtain ⟨a2,rfl,_⟩:=g2.int' (k:=.i64) (by kernel_rfl)
 exact ⟨(a0,a1,a2),rfl,w0⟩
def totTerm:List TermD→Nat
 | []=>0
 | x::r=>szTerm x+totTerm r
theorem totTerm_mem : ∀{xs:List TermD} {x:TermD},x∈xs→szTerm x≤totTerm xs
 | [],x,h=>by simp at h
 | y::r,x,h=>by
   simp only [List.mem_cons] at h
   simp only [totTerm]
   rcases h with rfl|h
   · omega
   · have:=totTerm_mem h;omega
def szTermS (xs:List TermD):Nat:=xs.length+totTerm xs
def avTermS (xs:List TermD):AVal:=.ro false 3 (xs.map avTerm)
def aoTermS (xs:List TermD):AVal:=.own 3 (xs.map avTerm)
theorem asRo_TermS (xs:List TermD):asRo (aoTermS xs)=avTermS xs:=by simp only [aoTermS,avTermS,asRo,asRoL_map2 asRo_Term]
theorem noRo_TermS (xs:List TermD):noRo (aoTermS xs)=true:=by simp only [aoTermS,noRo,noRoL_map noRo_Term]
theorem tzTermS_0 : ∀(xs pre:List TermD) (l:Int),(pre++xs).length≤1048576→(∀y∈xs,wfTerm y)→0≤l→l≤1048576→Ll_szTermS_0 ((pre++xs).map avTerm) l (pre.length:Int)=some (if szR l (totTerm xs)<0 then .inl (-1) else .inr (szR l (totTerm xs)))
 | [],pre,l,hl,hx,h0,h1=>by
   refine ll_szTermS_0 _ _ _ ?_
   have : ¬l<0:=by omega
   simp [totTerm,szR_zero h0,this]
 | x::xs,pre,l,hl,hx,h0,h1=>by
   have hm:=mid_len pre xs x
   rw [show totTerm (x::xs)=szTerm x+totTerm xs from rfl]
   refine ll_szTermS_0 _ _ _ ?_
   simp only [Int.toNat_natCast,List.length_map,dlt_true hm,d0_true,Bool.and_self,cond_true,map_mid,sh_Term,c0_Term,c1_Term,c2_Term,tzTerm x l (hx x (by simp)) h0 h1,Option.bind_some,wrap_succ hm (by omega)]
   by_cases g:szR l (szTerm x)<0
   · simp only [g,szR_over g h0,decide_true,cond_true,show ((-1:Int)<0) from by omega,if_true]
   · have b:=szR_le _ _ g
     have ih:=tzTermS_0 xs (pre++[x]) (szR l (szTerm x)) (by simpa using hl) (fun y hy=>hx y (by simp [hy])) b.1 (by omega)
     simp only [List.append_assoc,List.cons_append,List.nil_append,show ∀x:TermD,(pre++[x]).length=pre.length+1 from fun x=>by simp] at ih
     rw [szR_step g] at ih
     by_cases g2:szR l (szTerm x+totTerm xs)<0
     · rw [if_pos g2] at ih ⊢
       simp only [g,decide_false,cond_false,ih]
     · rw [if_neg g2] at ih ⊢
       simp only [g,decide_false,cond_false,ih]
theorem tzTermS (xs:List TermD) (l:Int) (hw:xs.length≤maxLen ∧ ∀y∈xs,wfTerm y) (h0:0≤l) (h1:l≤1048576):Fl_szTermS (xs.map avTerm) l=some (szR l (szTermS xs)):=by
 obtain ⟨q1,q2⟩:=szR_len h0 h1 hw.1
 unfold szTermS
 refine ul_szTermS _ _ ?_
 simp only [List.length_map,q1]
 by_cases g:szR l xs.length<0
 · simp only [g,szR_over g h0,decide_true,cond_true]
 · have b:=szR_le _ _ g
   have hn:=szR_nn g
   have e:=tzTermS_0 xs [] (szR l xs.length) (by simpa using (by omega:xs.length≤1048576)) hw.2 b.1 (by omega)
   simp only [List.nil_append,List.length_nil,Int.natCast_zero,szR_step g] at e
   by_cases g2:szR l (xs.length+totTerm xs)<0
   · rw [if_pos g2] at e
     simp only [g,decide_false,cond_false,q2 g,e,Option.bind_some,Sum.elim_inl,szR_m1 g2 h0]
   · rw [if_neg g2] at e
     simp only [g,decide_false,cond_false,q2 g,e,Option.bind_some,Sum.elim_inr]
theorem toTermS_0 (xs:List TermD) (hb:szTermS xs≤1048576) : ∀n i:Nat,i+n=xs.length→Ll_toTermS_0 (xs.map avTerm) (i:Int) (filled avTerm (avTerm (ByteArray.empty,0,0)) xs i)=some (xs.map avTerm)
 | 0,i,h=>by
   refine ll_toTermS_0 _ _ _ ?_
   obtain rfl:i=xs.length:=by omega
   simp [filled_all]
 | n+1,i,h=>by
   have hl:xs.length≤1048576:=by unfold szTermS at hb;omega
   have hi:i<xs.length:=by omega
   have ih:=toTermS_0 xs hb n (i+1) (by omega)
   have e2:aggQ (avTerm (ByteArray.empty,0,0))=true:=rfl
   have e4:Nat.ble 3 (avTerm (ByteArray.empty,0,0)).cells.length=true:=rfl
   have e3:AVal.agg (setMany (avTerm (ByteArray.empty,0,0)).cells 0 [.str xs[i].1,.int .i64 xs[i].2.1,.int .i64 xs[i].2.2])=avTerm xs[i]:=rfl
   refine ll_toTermS_0 _ _ _ ?_
   simp only [List.length_map,Int.toNat_natCast,dlt_true hi,d0_true,Bool.and_self,cond_true,getD_map avTerm hi,filled_len avTerm (avTerm (ByteArray.empty,0,0)) (Nat.le_of_lt hi),filled_get avTerm (avTerm (ByteArray.empty,0,0)) hi,blt_true hi,wrap_succ hi (by omega),sh_Term,c0_Term,c1_Term,c2_Term,toTerm,Option.bind_some,e2,e4,e3,bnd_eq,filled_set avTerm (avTerm (ByteArray.empty,0,0)) hi,ih]
theorem toTermS (xs:List TermD) (hb:szTermS xs≤1048576):Fl_toTermS (xs.map avTerm)=some (xs.map avTerm):=by
 have hl:xs.length≤1048576:=by unfold szTermS at hb;omega
 refine ul_toTermS _ ?_
 have e:=toTermS_0 xs hb xs.length 0 (by omega)
 rw [filled_zero] at e
 have h0:(0:Int)≤(xs.length:Int):=by omega
 simp only [Int.natCast_zero] at e
 simp only [List.length_map,Int.toNat_natCast,h0,Int.le_refl,capB_8 (b:=32) hl (by omega),decide_true,Bool.and_self,cond_true,bnd_eq]
 rw [show (.agg [.str ByteArray.empty,.int .i64 0,.int .i64 0]:AVal)=(avTerm (ByteArray.empty,0,0)) from rfl,e];rfl
theorem eqTermS_0 (xs:List TermD) (hb:szTermS xs≤1048576) : ∀n i:Nat,i+n=xs.length→Ll_eqTermS_0 (xs.map avTerm) (xs.map avTerm) (i:Int)=some (.inr ())
 | 0,i,h=>by
   refine ll_eqTermS_0 _ _ _ ?_
   simp [show ¬i<xs.length by omega]
 | n+1,i,h=>by
   have hl:xs.length≤1048576:=by unfold szTermS at hb;omega
   have hi:i<xs.length:=by omega
   have ih:=eqTermS_0 xs hb n (i+1) (by omega)
   refine ll_eqTermS_0 _ _ _ ?_
   simp only [List.length_map,Int.toNat_natCast,dlt_true hi,d0_true,Bool.and_self,cond_true,cond_false,getD_map avTerm hi,wrap_succ hi (by omega),sh_Term,c0_Term,c1_Term,c2_Term,eqTerm,Option.bind_some,Bool.not_true,ih]
theorem eqTermS (xs:List TermD) (hb:szTermS xs≤1048576):Fl_eqTermS (xs.map avTerm) (xs.map avTerm)=some true:=by
 refine ul_eqTermS _ _ ?_
 have e:=eqTermS_0 xs hb xs.length 0 (by omega)
 simp only [Int.natCast_zero] at e
 simp [e]
theorem fitTermS : ∀{xs:List AVal},(∀y∈xs,Fits ctx ty_laws_Term y) → ∃ns:List TermD,xs=ns.map avTerm ∧ ∀x∈ns,wfTerm x
 | [],_=>⟨[],rfl,by simp⟩
 | y::ys,h=>by
   obtain ⟨x,rfl,hx⟩:=fitTerm (h y (by simp))
   obtain ⟨ns,rfl,hn⟩:=fitTermS (xs:=ys) fun z hz=>h z (by simp [hz])
   exact ⟨x::ns,rfl,fun z hz=>by rcases List.mem_cons.1 hz with rfl|hz;exact hx;exact hn z hz⟩
def totString:List ByteArray→Nat
 | []=>0
 | x::r=>x.size+totString r
theorem totString_mem : ∀{xs:List ByteArray} {x:ByteArray},x∈xs→x.size≤totString xs
 | [],x,h=>by simp at h
 | y::r,x,h=>by
   simp only [List.mem_cons] at h
   simp only [totString]
   rcases h with rfl|h
   · omega
   · have:=totString_mem h;omega
def szStringS (xs:List ByteArray):Nat:=xs.length+totString xs
def avStringS (xs:List ByteArray):AVal:=.ro false 1 (xs.map sv)
def aoStringS (xs:List ByteArray):AVal:=.own 1 (xs.map sv)
theorem asRo_StringS (xs:List ByteArray):asRo (aoStringS xs)=avStringS xs:=by simp only [aoStringS,avStringS,asRo,asRoL_map2 asRo_sv]
theorem noRo_StringS (xs:List ByteArray):noRo (aoStringS xs)=true:=by simp only [aoStringS,noRo,noRoL_map noRo_sv]
theorem tzStringS_0 : ∀(xs pre:List ByteArray) (l:Int),(pre++xs).length≤1048576→(∀y∈xs,y.size≤maxLen)→0≤l→l≤1048576→Ll_szStringS_0 ((pre++xs).map sv) l (pre.length:Int)=some (if szR l (totString xs)<0 then .inl (-1) else .inr (szR l (totString xs)))
 | [],pre,l,hl,hx,h0,h1=>by
   refine ll_szStringS_0 _ _ _ ?_
   have : ¬l<0:=by omega
   simp [totString,szR_zero h0,this]
 | x::xs,pre,l,hl,hx,h0,h1=>by
   have hm:=mid_len pre xs x
   rw [show totString (x::xs)=x.size+totString xs from rfl]
   obtain ⟨q1,q2⟩:=szR_len h0 h1 (hx x (by simp))
   have hsh:CT.shape .str (sv x)=true:=rfl
   have hto:(sv x).toStr=x:=rfl
   refine ll_szStringS_0 _ _ _ ?_
   simp only [Int.toNat_natCast,List.length_map,dlt_true hm,d0_true,Bool.and_self,cond_true,map_mid,hsh,hto,q1,wrap_succ hm (by omega)]
   by_cases g:szR l (x.size)<0
   · simp only [g,szR_over g h0,decide_true,cond_true,show ((-1:Int)<0) from by omega,if_true]
   · have b:=szR_le _ _ g
     have ih:=tzStringS_0 xs (pre++[x]) (szR l (x.size)) (by simpa using hl) (fun y hy=>hx y (by simp [hy])) b.1 (by omega)
     simp only [List.append_assoc,List.cons_append,List.nil_append,show ∀x:ByteArray,(pre++[x]).length=pre.length+1 from fun x=>by simp] at ih
     rw [szR_step g] at ih
     by_cases g2:szR l (x.size+totString xs)<0
     · rw [if_pos g2] at ih ⊢
       simp only [g,decide_false,cond_false,q2 g,ih]
     · rw [if_neg g2] at ih ⊢
       simp only [g,decide_false,cond_false,q2 g,ih]
theorem tzStringS (xs:List ByteArray) (l:Int) (hw:xs.length≤maxLen ∧ ∀y∈xs,y.size≤maxLen) (h0:0≤l) (h1:l≤1048576):Fl_szStringS (xs.map sv) l=some (szR l (szStringS xs)):=by
 obtain ⟨q1,q2⟩:=szR_len h0 h1 hw.1
 unfold szStringS
 refine ul_szStringS _ _ ?_
 simp only [List.length_map,q1]
 by_cases g:szR l xs.length<0
 · simp only [g,szR_over g h0,decide_true,cond_true]
 · have b:=szR_le _ _ g
   have hn:=szR_nn g
   have e:=tzStringS_0 xs [] (szR l xs.length) (by simpa using (by omega:xs.length≤1048576)) hw.2 b.1 (by omega)
   simp only [List.nil_append,List.length_nil,Int.natCast_zero,szR_step g] at e
   by_cases g2:szR l (xs.length+totString xs)<0
   · rw [if_pos g2] at e
     simp only [g,decide_false,cond_false,q2 g,e,Option.bind_some,Sum.elim_inl,szR_m1 g2 h0]
   · rw [if_neg g2] at e
     simp only [g,decide_false,cond_false,q2 g,e,Option.bind_some,Sum.elim_inr]
theorem toStringS_0 (xs:List ByteArray) (hb:szStringS xs≤1048576) : ∀n i:Nat,i+n=xs.length→Ll_toStringS_0 (xs.map sv) (i:Int) (filled sv (sv ByteArray.empty) xs i)=some (xs.map sv)
 | 0,i,h=>by
   refine ll_toStringS_0 _ _ _ ?_
   obtain rfl:i=xs.length:=by omega
   simp [filled_all]
 | n+1,i,h=>by
   have hl:xs.length≤1048576:=by unfold szStringS at hb;omega
   have hi:i<xs.length:=by omega
   have ih:=toStringS_0 xs hb n (i+1) (by omega)
   have e1:CT.shape (.str) (sv xs[i])=true:=rfl
   have e2:aggQ (sv ByteArray.empty)=false:=rfl
   have e3:AVal.str (sv xs[i]).toStr=sv xs[i]:=rfl
   refine ll_toStringS_0 _ _ _ ?_
   simp only [List.length_map,Int.toNat_natCast,dlt_true hi,d0_true,Bool.and_self,cond_true,getD_map sv hi,filled_len sv (sv ByteArray.empty) (Nat.le_of_lt hi),filled_get sv (sv ByteArray.empty) hi,blt_true hi,wrap_succ hi (by omega),e1,e2,e3,Bool.not_false,filled_set sv (sv ByteArray.empty) hi,ih]
theorem toStringS (xs:List ByteArray) (hb:szStringS xs≤1048576):Fl_toStringS (xs.map sv)=some (xs.map sv):=by
 have hl:xs.length≤1048576:=by unfold szStringS at hb;omega
 refine ul_toStringS _ ?_
 have e:=toStringS_0 xs hb xs.length 0 (by omega)
 rw [filled_zero] at e
 have h0:(0:Int)≤(xs.length:Int):=by omega
 simp only [Int.natCast_zero] at e
 simp only [List.length_map,Int.toNat_natCast,h0,Int.le_refl,capB_8 (b:=16) hl (by omega),decide_true,Bool.and_self,cond_true,bnd_eq]
 rw [show (.str ByteArray.empty:AVal)=(sv ByteArray.empty) from rfl,e];rfl
theorem eqStringS_0 (xs:List ByteArray) (hb:szStringS xs≤1048576) : ∀n i:Nat,i+n=xs.length→Ll_eqStringS_0 (xs.map sv) (xs.map sv) (i:Int)=some (.inr ())
 | 0,i,h=>by
   refine ll_eqStringS_0 _ _ _ ?_
   simp [show ¬i<xs.length by omega]
 | n+1,i,h=>by
   have hl:xs.length≤1048576:=by unfold szStringS at hb;omega
   have hi:i<xs.length:=by omega
   have ih:=eqStringS_0 xs hb n (i+1) (by omega)
   have e1:CT.shape (.str) (sv xs[i])=true:=rfl
   refine ll_eqStringS_0 _ _ _ ?_
   simp only [List.length_map,Int.toNat_natCast,dlt_true hi,d0_true,Bool.and_self,cond_true,cond_false,getD_map sv hi,wrap_succ hi (by omega),e1,decide_true,beq_self_eq_true,Bool.not_true,ih]
theorem eqStringS (xs:List ByteArray) (hb:szStringS xs≤1048576):Fl_eqStringS (xs.map sv) (xs.map sv)=some true:=by
 refine ul_eqStringS _ _ ?_
 have e:=eqStringS_0 xs hb xs.length 0 (by omega)
 simp only [Int.natCast_zero] at e
 simp [e]
theorem fitStringS : ∀{xs:List AVal},(∀y∈xs,Fits ctx ty_string y) → ∃ns:List ByteArray,xs=ns.map sv ∧ ∀x∈ns,x.size≤maxLen
 | [],_=>⟨[],rfl,by simp⟩
 | y::ys,h=>by
   obtain ⟨x,rfl,hx⟩:=(h y (by simp)).str' (by kernel_rfl)
   obtain ⟨ns,rfl,hn⟩:=fitStringS (xs:=ys) fun z hz=>h z (by simp [hz])
   exact ⟨x::ns,rfl,fun z hz=>by rcases List.mem_cons.1 hz with rfl|hz;exact hx;exact hn z hz⟩
def avIntS (xs:List Int):AVal:=.ro false 1 (xs.map iv)
def aoIntS (xs:List Int):AVal:=.own 1 (xs.map iv)
theorem asRo_IntS (xs:List Int):asRo (aoIntS xs)=avIntS xs:=by simp only [aoIntS,avIntS,asRo,asRoL_map2 asRo_iv]
theorem noRo_IntS (xs:List Int):noRo (aoIntS xs)=true:=by simp only [aoIntS,noRo,noRoL_map noRo_iv]
theorem tzIntS (xs:List Int) (l:Int) (hl:xs.length≤maxLen) (h0:0≤l) (h1:l≤1048576):Fl_szIntS (xs.map iv) l=some (szR l xs.length):=by
 unfold maxLen at hl
 refine ul_szIntS _ _ ?_
 have e:IntKind.wrap .i64 (l-(xs.length:Int))=l-(xs.length:Int):=wrap64 (by omega) (by omega)
 unfold szR
 by_cases g:l<(xs.length:Int)
 · have:l-(xs.length:Int)<0:=by omega
   simp [e,g,this]
 · have : ¬l-(xs.length:Int)<0:=by omega
   simp [e,g,this]
theorem toIntS_0 (xs:List Int) (hb:xs.length≤1048576) : ∀n i:Nat,i+n=xs.length→Ll_toIntS_0 (xs.map iv) (i:Int) (filled iv (iv 0) xs i)=some (xs.map iv)
 | 0,i,h=>by
   refine ll_toIntS_0 _ _ _ ?_
   obtain rfl:i=xs.length:=by omega
   simp [filled_all]
 | n+1,i,h=>by
   have hl:=hb
   have hi:i<xs.length:=by omega
   have ih:=toIntS_0 xs hb n (i+1) (by omega)
   have e1:CT.shape (.int .i64) (iv xs[i])=true:=rfl
   have e2:aggQ (iv 0)=false:=rfl
   have e3:AVal.int .i64 (iv xs[i]).toInt=iv xs[i]:=rfl
   refine ll_toIntS_0 _ _ _ ?_
   simp only [List.length_map,Int.toNat_natCast,dlt_true hi,d0_true,Bool.and_self,cond_true,getD_map iv hi,filled_len iv (iv 0) (Nat.le_of_lt hi),filled_get iv (iv 0) hi,blt_true hi,wrap_succ hi (by omega),e1,e2,e3,Bool.not_false,filled_set iv (iv 0) hi,ih]
theorem toIntS (xs:List Int) (hb:xs.length≤1048576):Fl_toIntS (xs.map iv)=some (xs.map iv):=by
 have hl:=hb
 refine ul_toIntS _ ?_
 have e:=toIntS_0 xs hb xs.length 0 (by omega)
 rw [filled_zero] at e
 have h0:(0:Int)≤(xs.length:Int):=by omega
 simp only [Int.natCast_zero] at e
 simp only [List.length_map,Int.toNat_natCast,h0,Int.le_refl,capB_8 (b:=8) hl (by omega),decide_true,Bool.and_self,cond_true,bnd_eq]
 rw [show (.int .i64 0:AVal)=(iv 0) from rfl,e];rfl
theorem eqIntS_0 (xs:List Int) (hb:xs.length≤1048576) : ∀n i:Nat,i+n=xs.length→Ll_eqIntS_0 (xs.map iv) (xs.map iv) (i:Int)=some (.inr ())
 | 0,i,h=>by
   refine ll_eqIntS_0 _ _ _ ?_
   simp [show ¬i<xs.length by omega]
 | n+1,i,h=>by
   have hl:=hb
   have hi:i<xs.length:=by omega
   have ih:=eqIntS_0 xs hb n (i+1) (by omega)
   have e1:CT.shape (.int .i64) (iv xs[i])=true:=rfl
   refine ll_eqIntS_0 _ _ _ ?_
   simp only [List.length_map,Int.toNat_natCast,dlt_true hi,d0_true,Bool.and_self,cond_true,cond_false,getD_map iv hi,wrap_succ hi (by omega),e1,decide_true,beq_self_eq_true,Bool.not_true,ih]
theorem eqIntS (xs:List Int) (hb:xs.length≤1048576):Fl_eqIntS (xs.map iv) (xs.map iv)=some true:=by
 refine ul_eqIntS _ _ ?_
 have e:=eqIntS_0 xs hb xs.length 0 (by omega)
 simp only [Int.natCast_zero] at e
 simp [e]
theorem fitIntS : ∀{xs:List AVal},(∀y∈xs,Fits ctx ty_int y) → ∃ns:List Int,xs=ns.map iv
 | [],_=>⟨[],rfl⟩
 | y::ys,h=>by
   obtain ⟨x,rfl,_⟩:=(h y (by simp)).int' (k:=.i64) (by kernel_rfl)
   obtain ⟨ns,rfl⟩:=fitIntS (xs:=ys) fun z hz=>h z (by simp [hz])
   exact ⟨x::ns,rfl⟩
abbrev ProdD:=Int×List Int×ByteArray×Int×Int
def avProd (x:ProdD):AVal:=.agg [.int .i64 x.1,.ro false 1 (x.2.1.map iv),.str x.2.2.1,.int .i64 x.2.2.2.1,.int .i64 x.2.2.2.2]
def aoProd (x:ProdD):AVal:=.agg [.int .i64 x.1,.own 1 (x.2.1.map iv),.str x.2.2.1,.int .i64 x.2.2.2.1,.int .i64 x.2.2.2.2]
theorem asRo_Prod (x:ProdD):asRo (aoProd x)=avProd x:=by simp only [aoProd,avProd,asRo,asRoL,asRoL_map2 asRo_iv]
theorem noRo_Prod (x:ProdD):noRo (aoProd x)=true:=by simp only [aoProd,noRo,noRoL,noRoL_map noRo_iv,Bool.and_self]
theorem sh_Prod (x:ProdD):shapes [.int .i64,.slice 1,.str,.int .i64,.int .i64] (((avProd x).cells.drop 0).take 5)=true:=rfl
theorem c0_Prod (x:ProdD):((avProd x).cell 0).toInt=x.1:=rfl
theorem p0_Prod (x:ProdD):CT.shape (.int .i64) ((avProd x).cell 0)=true:=rfl
theorem c1_Prod (x:ProdD):((avProd x).cell 1).elems=x.2.1.map iv:=rfl
theorem p1_Prod (x:ProdD):CT.shape (.slice 1) ((avProd x).cell 1)=true:=rfl
theorem c2_Prod (x:ProdD):((avProd x).cell 2).toStr=x.2.2.1:=rfl
theorem p2_Prod (x:ProdD):CT.shape (.str) ((avProd x).cell 2)=true:=rfl
theorem c3_Prod (x:ProdD):((avProd x).cell 3).toInt=x.2.2.2.1:=rfl
theorem p3_Prod (x:ProdD):CT.shape (.int .i64) ((avProd x).cell 3)=true:=rfl
theorem c4_Prod (x:ProdD):((avProd x).cell 4).toInt=x.2.2.2.2:=rfl
theorem p4_Prod (x:ProdD):CT.shape (.int .i64) ((avProd x).cell 4)=true:=rfl
def szProd (x:ProdD):Nat:=x.2.1.length+x.2.2.1.size
def wfProd (x:ProdD):Prop:=(x.2.1.length≤maxLen)∧(x.2.2.1.size≤maxLen)
theorem tzProd (x:ProdD) (l:Int) (hw:wfProd x) (h0:0≤l) (h1:l≤1048576):Fl_szProd x.1 (x.2.1.map iv) x.2.2.1 x.2.2.2.1 x.2.2.2.2 l=some (szR l (szProd x)):=by
 unfold wfProd at hw
 unfold szProd
 refine ul_szProd _ _ _ _ _ _ ?_
 obtain ⟨w0,w1⟩:=hw
 have b0:0≤l∧l≤1048576:=by exact ⟨h0,h1⟩
 have e0:=tzIntS x.2.1 (l) w0 b0.1 b0.2
 by_cases g0:szR l (x.2.1.length)<0
 · simp only [e0,g0,Option.bind_some,decide_true,cond_true]
   rw [show szR l (x.2.1.length+x.2.2.1.size) = -1 from by rw [show x.2.1.length+x.2.2.1.size=(x.2.1.length)+(x.2.2.1.size) by omega];exact szR_over g0 h0]
 have b1:0≤szR l (x.2.1.length)∧szR l (x.2.1.length)≤1048576:=by have:=szR_le _ _ g0;omega
 obtain ⟨e1,e1'⟩:=szR_len b1.1 b1.2 w1
 rw [szR_step g0] at e1 e1'
 by_cases g1:szR l (x.2.1.length+x.2.2.1.size)<0
 · simp only [e0,g0,Option.bind_some,decide_false,cond_false,e1,g1,decide_true,cond_true]
   rw [szR_m1 g1 h0]
 simp only [e0,g0,Option.bind_some,decide_false,cond_false,e1,g1,e1' g1]
theorem toProd (x:ProdD) (h:szProd x≤1048576):Fl_toProd x.1 (x.2.1.map iv) x.2.2.1 x.2.2.2.1 x.2.2.2.2=some (x.1,(x.2.1.map iv),x.2.2.1,x.2.2.2.1,x.2.2.2.2):=by
 unfold szProd at h
 refine ul_toProd _ _ _ _ _ ?_
 simp only [toIntS x.2.1 (by omega),Option.bind_some]
theorem eqProd (x:ProdD) (h:szProd x≤1048576):Fl_eqProd x.1 (x.2.1.map iv) x.2.2.1 x.2.2.2.1 x.2.2.2.2 x.1 (x.2.1.map iv) x.2.2.1 x.2.2.2.1 x.2.2.2.2=some true:=by
 unfold szProd at h
 refine ul_eqProd _ _ _ _ _ _ _ _ _ _ ?_
 simp only [eqIntS x.2.1 (by omega),Option.bind_some,decide_true,beq_self_eq_true,Bool.not_true,cond_false]
theorem fitProd {y:AVal} (h:Fits ctx ty_laws_Prod y) : ∃x:ProdD,y=avProd x∧wfProd x:=by
 obtain ⟨fs,rfl,g⟩:=h.struct' (us:=[ty_int,ty_S_int,ty_string,ty_int,ty_int]) (by kernel_rfl)
 obtain ⟨v0,r,rfl,g0,g⟩:=g.cons'
 obtain ⟨v1,r,rfl,g1,g⟩:=g.cons'
 obtain ⟨v2,r,rfl,g2,g⟩:=g.cons'
 obtain ⟨v3,r,rfl,g3,g⟩:=g.cons'
 obtain ⟨v4,r,rfl,g4,g⟩:=g.cons'
 obtain rfl:=g.nil'
 obtain ⟨a0,rfl,_⟩:=g0.int' (k:=.i64) (by kernel_rfl)
 obtain ⟨x1,rfl,l1,q1⟩:=g1.slice' (sz:=1) (e:=ty_int) (by kernel_rfl)
 obtain ⟨a1,rfl⟩:=fitIntS q1
 rw [List.length_map] at l1
 obtain ⟨a2,rfl,w2⟩:=g2.str' (by kernel_rfl)
 obtain ⟨a3,rfl,_⟩:=g3.int' (k:=.i64) (by kernel_rfl)
 obtain ⟨a4,rfl,_⟩:=g4.int' (k:=.i64) (by kernel_rfl)
 exact ⟨(a0,a1,a2,a3,a4),rfl,⟨l1,w2⟩⟩
def totProd:List ProdD→Nat
 | []=>0
 | x::r=>szProd x+totProd r
theorem totProd_mem : ∀{xs:List ProdD} {x:ProdD},x∈xs→szProd x≤totProd xs
 | [],x,h=>by simp at h
 | y::r,x,h=>by
   simp only [List.mem_cons] at h
   simp only [totProd]
   rcases h with rfl|h
   · omega
   · have:=totProd_mem h;omega
def szProdS (xs:List ProdD):Nat:=xs.length+totProd xs
def avProdS (xs:List ProdD):AVal:=.ro false 5 (xs.map avProd)
def aoProdS (xs:List ProdD):AVal:=.own 5 (xs.map aoProd)
theorem asRo_ProdS (xs:List ProdD):asRo (aoProdS xs)=avProdS xs:=by simp only [aoProdS,avProdS,asRo,asRoL_map2 asRo_Prod]
theorem noRo_ProdS (xs:List ProdD):noRo (aoProdS xs)=true:=by simp only [aoProdS,noRo,noRoL_map noRo_Prod]
theorem tzProdS_0 : ∀(xs pre:List ProdD) (l:Int),(pre++xs).length≤1048576→(∀y∈xs,wfProd y)→0≤l→l≤1048576→Ll_szProdS_0 ((pre++xs).map avProd) l (pre.length:Int)=some (if szR l (totProd xs)<0 then .inl (-1) else .inr (szR l (totProd xs)))
 | [],pre,l,hl,hx,h0,h1=>by
   refine ll_szProdS_0 _ _ _ ?_
   have : ¬l<0:=by omega
   simp [totProd,szR_zero h0,this]
 | x::xs,pre,l,hl,hx,h0,h1=>by
   have hm:=mid_len pre xs x
   rw [show totProd (x::xs)=szProd x+totProd xs from rfl]
   refine ll_szProdS_0 _ _ _ ?_
   simp only [Int.toNat_natCast,List.length_map,dlt_true hm,d0_true,Bool.and_self,cond_true,map_mid,sh_Prod,c0_Prod,c1_Prod,c2_Prod,c3_Prod,c4_Prod,tzProd x l (hx x (by simp)) h0 h1,Option.bind_some,wrap_succ hm (by omega)]
   by_cases g:szR l (szProd x)<0
   · simp only [g,szR_over g h0,decide_true,cond_true,show ((-1:Int)<0) from by omega,if_true]
   · have b:=szR_le _ _ g
     have ih:=tzProdS_0 xs (pre++[x]) (szR l (szProd x)) (by simpa using hl) (fun y hy=>hx y (by simp [hy])) b.1 (by omega)
     simp only [List.append_assoc,List.cons_append,List.nil_append,show ∀x:ProdD,(pre++[x]).length=pre.length+1 from fun x=>by simp] at ih
     rw [szR_step g] at ih
     by_cases g2:szR l (szProd x+totProd xs)<0
     · rw [if_pos g2] at ih ⊢
       simp only [g,decide_false,cond_false,ih]
     · rw [if_neg g2] at ih ⊢
       simp only [g,decide_false,cond_false,ih]
theorem tzProdS (xs:List ProdD) (l:Int) (hw:xs.length≤maxLen ∧ ∀y∈xs,wfProd y) (h0:0≤l) (h1:l≤1048576):Fl_szProdS (xs.map avProd) l=some (szR l (szProdS xs)):=by
 obtain ⟨q1,q2⟩:=szR_len h0 h1 hw.1
 unfold szProdS
 refine ul_szProdS _ _ ?_
 simp only [List.length_map,q1]
 by_cases g:szR l xs.length<0
 · simp only [g,szR_over g h0,decide_true,cond_true]
 · have b:=szR_le _ _ g
   have hn:=szR_nn g
   have e:=tzProdS_0 xs [] (szR l xs.length) (by simpa using (by omega:xs.length≤1048576)) hw.2 b.1 (by omega)
   simp only [List.nil_append,List.length_nil,Int.natCast_zero,szR_step g] at e
   by_cases g2:szR l (xs.length+totProd xs)<0
   · rw [if_pos g2] at e
     simp only [g,decide_false,cond_false,q2 g,e,Option.bind_some,Sum.elim_inl,szR_m1 g2 h0]
   · rw [if_neg g2] at e
     simp only [g,decide_false,cond_false,q2 g,e,Option.bind_some,Sum.elim_inr]
theorem toProdS_0 (xs:List ProdD) (hb:szProdS xs≤1048576) : ∀n i:Nat,i+n=xs.length→Ll_toProdS_0 (xs.map avProd) (i:Int) (filled aoProd (aoProd (0,[],ByteArray.empty,0,0)) xs i)=some (xs.map aoProd)
 | 0,i,h=>by
   refine ll_toProdS_0 _ _ _ ?_
   obtain rfl:i=xs.length:=by omega
   simp [filled_all]
 | n+1,i,h=>by
   have hl:xs.length≤1048576:=by unfold szProdS at hb;omega
   have hi:i<xs.length:=by omega
   have ih:=toProdS_0 xs hb n (i+1) (by omega)
   have e2:aggQ (aoProd (0,[],ByteArray.empty,0,0))=true:=rfl
   have e4:Nat.ble 5 (aoProd (0,[],ByteArray.empty,0,0)).cells.length=true:=rfl
   have e3:AVal.agg (setMany (aoProd (0,[],ByteArray.empty,0,0)).cells 0 [.int .i64 xs[i].1,.own 1 (xs[i].2.1.map iv),.str xs[i].2.2.1,.int .i64 xs[i].2.2.2.1,.int .i64 xs[i].2.2.2.2])=aoProd xs[i]:=rfl
   have hz:szProd xs[i]≤1048576:=by have:=totProd_mem (List.getElem_mem hi);unfold szProdS at hb;omega
   refine ll_toProdS_0 _ _ _ ?_
   simp only [List.length_map,Int.toNat_natCast,dlt_true hi,d0_true,Bool.and_self,cond_true,getD_map avProd hi,filled_len aoProd (aoProd (0,[],ByteArray.empty,0,0)) (Nat.le_of_lt hi),filled_get aoProd (aoProd (0,[],ByteArray.empty,0,0)) hi,blt_true hi,wrap_succ hi (by omega),sh_Prod,c0_Prod,c1_Prod,c2_Prod,c3_Prod,c4_Prod,toProd xs[i] hz,Option.bind_some,e2,e4,e3,bnd_eq,filled_set aoProd (aoProd (0,[],ByteArray.empty,0,0)) hi,ih]
theorem toProdS (xs:List ProdD) (hb:szProdS xs≤1048576):Fl_toProdS (xs.map avProd)=some (xs.map aoProd):=by
 have hl:xs.length≤1048576:=by unfold szProdS at hb;omega
 refine ul_toProdS _ ?_
 have e:=toProdS_0 xs hb xs.length 0 (by omega)
 rw [filled_zero] at e
 have h0:(0:Int)≤(xs.length:Int):=by omega
 simp only [Int.natCast_zero] at e
 simp only [List.length_map,Int.toNat_natCast,h0,Int.le_refl,capB_8 (b:=64) hl (by omega),decide_true,Bool.and_self,cond_true,bnd_eq]
 rw [show (.agg [.int .i64 0,.own 1 [],.str ByteArray.empty,.int .i64 0,.int .i64 0]:AVal)=(aoProd (0,[],ByteArray.empty,0,0)) from rfl,e];rfl
theorem eqProdS_0 (xs:List ProdD) (hb:szProdS xs≤1048576) : ∀n i:Nat,i+n=xs.length→Ll_eqProdS_0 (xs.map avProd) (xs.map avProd) (i:Int)=some (.inr ())
 | 0,i,h=>by
   refine ll_eqProdS_0 _ _ _ ?_
   simp [show ¬i<xs.length by omega]
 | n+1,i,h=>by
   have hl:xs.length≤1048576:=by unfold szProdS at hb;omega
   have hi:i<xs.length:=by omega
   have ih:=eqProdS_0 xs hb n (i+1) (by omega)
   have hz:szProd xs[i]≤1048576:=by have:=totProd_mem (List.getElem_mem hi);unfold szProdS at hb;omega
   refine ll_eqProdS_0 _ _ _ ?_
   simp only [List.length_map,Int.toNat_natCast,dlt_true hi,d0_true,Bool.and_self,cond_true,cond_false,getD_map avProd hi,wrap_succ hi (by omega),sh_Prod,c0_Prod,c1_Prod,c2_Prod,c3_Prod,c4_Prod,eqProd xs[i] hz,Option.bind_some,Bool.not_true,ih]
theorem eqProdS (xs:List ProdD) (hb:szProdS xs≤1048576):Fl_eqProdS (xs.map avProd) (xs.map avProd)=some true:=by
 refine ul_eqProdS _ _ ?_
 have e:=eqProdS_0 xs hb xs.length 0 (by omega)
 simp only [Int.natCast_zero] at e
 simp [e]
theorem fitProdS : ∀{xs:List AVal},(∀y∈xs,Fits ctx ty_laws_Prod y) → ∃ns:List ProdD,xs=ns.map avProd ∧ ∀x∈ns,wfProd x
 | [],_=>⟨[],rfl,by simp⟩
 | y::ys,h=>by
   obtain ⟨x,rfl,hx⟩:=fitProd (h y (by simp))
   obtain ⟨ns,rfl,hn⟩:=fitProdS (xs:=ys) fun z hz=>h z (by simp [hz])
   exact ⟨x::ns,rfl,fun z hz=>by rcases List.mem_cons.1 hz with rfl|hz;exact hx;exact hn z hz⟩
abbrev BnfD:=List TermD×List ByteArray×Int×List ProdD
def avBnf (x:BnfD):AVal:=.agg [.ro false 3 (x.1.map avTerm),.ro false 1 (x.2.1.map sv),.int .i64 x.2.2.1,.ro false 5 (x.2.2.2.map avProd)]
def aoBnf (x:BnfD):AVal:=.agg [.own 3 (x.1.map avTerm),.own 1 (x.2.1.map sv),.int .i64 x.2.2.1,.own 5 (x.2.2.2.map aoProd)]
theorem asRo_Bnf (x:BnfD):asRo (aoBnf x)=avBnf x:=by simp only [aoBnf,avBnf,asRo,asRoL,asRoL_map2 asRo_Prod,asRoL_map2 asRo_Term,asRoL_map2 asRo_sv]
theorem noRo_Bnf (x:BnfD):noRo (aoBnf x)=true:=by simp only [aoBnf,noRo,noRoL,noRoL_map noRo_Prod,noRoL_map noRo_Term,noRoL_map noRo_sv,Bool.and_self]
theorem sh_Bnf (x:BnfD):shapes [.slice 3,.slice 1,.int .i64,.slice 5] (((avBnf x).cells.drop 0).take 4)=true:=rfl
theorem c0_Bnf (x:BnfD):((avBnf x).cell 0).elems=x.1.map avTerm:=rfl
theorem p0_Bnf (x:BnfD):CT.shape (.slice 3) ((avBnf x).cell 0)=true:=rfl
theorem c1_Bnf (x:BnfD):((avBnf x).cell 1).elems=x.2.1.map sv:=rfl
theorem p1_Bnf (x:BnfD):CT.shape (.slice 1) ((avBnf x).cell 1)=true:=rfl
theorem c2_Bnf (x:BnfD):((avBnf x).cell 2).toInt=x.2.2.1:=rfl
theorem p2_Bnf (x:BnfD):CT.shape (.int .i64) ((avBnf x).cell 2)=true:=rfl
theorem c3_Bnf (x:BnfD):((avBnf x).cell 3).elems=x.2.2.2.map avProd:=rfl
theorem p3_Bnf (x:BnfD):CT.shape (.slice 5) ((avBnf x).cell 3)=true:=rfl
def szBnf (x:BnfD):Nat:=szTermS x.1+szStringS x.2.1+szProdS x.2.2.2
def wfBnf (x:BnfD):Prop:=(x.1.length≤maxLen ∧ ∀y∈x.1,wfTerm y)∧(x.2.1.length≤maxLen ∧ ∀y∈x.2.1,y.size≤maxLen)∧(x.2.2.2.length≤maxLen ∧ ∀y∈x.2.2.2,wfProd y)
theorem tzBnf (x:BnfD) (l:Int) (hw:wfBnf x) (h0:0≤l) (h1:l≤1048576):Fl_szBnf (x.1.map avTerm) (x.2.1.map sv) x.2.2.1 (x.2.2.2.map avProd) l=some (szR l (szBnf x)):=by
 unfold wfBnf at hw
 unfold szBnf
 refine ul_szBnf _ _ _ _ _ ?_
 obtain ⟨w0,w1,w2⟩:=hw
 have b0:0≤l∧l≤1048576:=by exact ⟨h0,h1⟩
 have e0:=tzTermS x.1 (l) w0 b0.1 b0.2
 by_cases g0:szR l (szTermS x.1)<0
 · simp only [e0,g0,Option.bind_some,decide_true,cond_true]
   rw [show szR l (szTermS x.1+szStringS x.2.1+szProdS x.2.2.2) = -1 from by rw [show szTermS x.1+szStringS x.2.1+szProdS x.2.2.2=(szTermS x.1)+(szStringS x.2.1+szProdS x.2.2.2) by omega];exact szR_over g0 h0]
 have b1:0≤szR l (szTermS x.1)∧szR l (szTermS x.1)≤1048576:=by have:=szR_le _ _ g0;omega
 have e1:=tzStringS x.2.1 (szR l (szTermS x.1)) w1 b1.1 b1.2
 rw [szR_step g0] at e1
 by_cases g1:szR l (szTermS x.1+szStringS x.2.1)<0
 · simp only [e0,g0,Option.bind_some,decide_false,cond_false,e1,g1,Option.bind_some,decide_true,cond_true]
   rw [show szR l (szTermS x.1+szStringS x.2.1+szProdS x.2.2.2) = -1 from by rw [show szTermS x.1+szStringS x.2.1+szProdS x.2.2.2=(szTermS x.1+szStringS x.2.1)+(szProdS x.2.2.2) by omega];exact szR_over g1 h0]
 have b2:0≤szR l (szTermS x.1+szStringS x.2.1)∧szR l (szTermS x.1+szStringS x.2.1)≤1048576:=by have:=szR_le _ _ g1;omega
 have e2:=tzProdS x.2.2.2 (szR l (szTermS x.1+szStringS x.2.1)) w2 b2.1 b2.2
 rw [szR_step g1] at e2
 by_cases g2:szR l (szTermS x.1+szStringS x.2.1+szProdS x.2.2.2)<0
 · simp only [e0,g0,Option.bind_some,decide_false,cond_false,e1,g1,Option.bind_some,decide_false,cond_false,e2,g2,Option.bind_some,decide_true,cond_true]
   rw [szR_m1 g2 h0]
 simp only [e0,g0,Option.bind_some,decide_false,cond_false,e1,g1,e2,g2]
theorem toBnf (x:BnfD) (h:szBnf x≤1048576):Fl_toBnf (x.1.map avTerm) (x.2.1.map sv) x.2.2.1 (x.2.2.2.map avProd)=some ((x.1.map avTerm),(x.2.1.map sv),x.2.2.1,(x.2.2.2.map aoProd)):=by
 unfold szBnf at h
 refine ul_toBnf _ _ _ _ ?_
 simp only [toTermS x.1 (by omega),toStringS x.2.1 (by omega),toProdS x.2.2.2 (by omega),Option.bind_some]
theorem eqBnf (x:BnfD) (h:szBnf x≤1048576):Fl_eqBnf (x.1.map avTerm) (x.2.1.map sv) x.2.2.1 (x.2.2.2.map avProd) (x.1.map avTerm) (x.2.1.map sv) x.2.2.1 (x.2.2.2.map avProd)=some true:=by
 unfold szBnf at h
 refine ul_eqBnf _ _ _ _ _ _ _ _ ?_
 simp only [eqTermS x.1 (by omega),eqStringS x.2.1 (by omega),eqProdS x.2.2.2 (by omega),Option.bind_some,decide_true,beq_self_eq_true,Bool.not_true,cond_false]
theorem fitBnf {y:AVal} (h:Fits ctx ty_laws_Bnf y) : ∃x:BnfD,y=avBnf x∧wfBnf x:=by
 obtain ⟨fs,rfl,g⟩:=h.struct' (us:=[ty_S_laws_Term,ty_S_string,ty_int,ty_S_laws_Prod]) (by kernel_rfl)
 obtain ⟨v0,r,rfl,g0,g⟩:=g.cons'
 obtain ⟨v1,r,rfl,g1,g⟩:=g.cons'
 obtain ⟨v2,r,rfl,g2,g⟩:=g.cons'
 obtain ⟨v3,r,rfl,g3,g⟩:=g.cons'
 obtain rfl:=g.nil'
 obtain ⟨x0,rfl,l0,q0⟩:=g0.slice' (sz:=3) (e:=ty_laws_Term) (by kernel_rfl)
 obtain ⟨a0,rfl,w0⟩:=fitTermS q0
 rw [List.length_map] at l0
 obtain ⟨x1,rfl,l1,q1⟩:=g1.slice' (sz:=1) (e:=ty_string) (by kernel_rfl)
 obtain ⟨a1,rfl,w1⟩:=fitStringS q1
 rw [List.length_map] at l1
 obtain ⟨a2,rfl,_⟩:=g2.int' (k:=.i64) (by kernel_rfl)
 obtain ⟨x3,rfl,l3,q3⟩:=g3.slice' (sz:=5) (e:=ty_laws_Prod) (by kernel_rfl)
 obtain ⟨a3,rfl,w3⟩:=fitProdS q3
 rw [List.length_map] at l3
 exact ⟨(a0,a1,a2,a3),rfl,⟨⟨l0,w0⟩,⟨l1,w1⟩,⟨l3,w3⟩⟩⟩
end Go.Proofs.Ytgoaegbddpmiiaa
