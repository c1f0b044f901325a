/- Shortest: the law answers true at all plain arguments; no condition. -/
import Derived.Test.YtgoaegbddpmiiaaFi
import Derived.Test.YtgoaegbddpmiiaaBo
import Derived.Test.YtgoaegbddpmiiaaBbm
import Derived.Test.YtgoaegbddpmiiaaXe
namespace Go.Proofs.Ytgoaegbddpmiiaa
open Go.VK AVal
theorem short2 (ts:List TermD) (ns:List ByteArray) (own:Int) (ps:List ProdD) (x:Int) : ∃(V:List Int) (c:Int),V.length≤1000 ∧
 Fs_Shortest (ts.map avTerm) (ns.map sv) own (ps.map avProd) x=some (V.map iv,c)∧Fi_Shortest (ts.map avTerm) (ns.map sv) own (ps.map avProd) x=some (V.map iv,c):=by
 have bs:=bo_spec ts ns own ps
 have bi:=bo_impl ts ns own ps
 cases g:bnfQ ts ns own ps with
 | false=>
   rw [g] at bs bi
   refine ⟨[],1,by simp,us_Shortest _ _ _ _ _ ?_,ui_Shortest _ _ _ _ _ ?_⟩
   · simp only [bs,Option.bind_some,Bool.not_false,cond_true,List.map_nil]
   · simp only [bi,Option.bind_some,Bool.not_false,cond_true,List.map_nil]
 | true=>
   rw [g] at bs bi
   have h:=rb_of g
   have hn100:=h.n100
   have hT:(ts.map avTerm).length=ts.length:=List.length_map _
   have hN:(ns.map sv).length=ns.length:=List.length_map _
   have w1:IntKind.wrap .i64 ((ns.length:Int)-1)=(ns.length:Int)-1:=wrap64 (by omega) (by omega)
   obtain ⟨L,l1,l2⟩:=least_s (T:=ts.map avTerm) (Ns:=ns.map sv) (own:=own) h hT hN
   obtain ⟨f,k,L',F,B,f1,_,_,f2,f3⟩:=facts_i (T:=ts.map avTerm) (Ns:=ns.map sv) (own:=own) h hT hN
   obtain rfl:=least_eq l2 f2
   by_cases x0:x<0
   · have d1:decide ((0:Int)≤x)=false:=decide_eq_false (by omega)
     refine ⟨[],4,by simp,us_Shortest _ _ _ _ _ ?_,ui_Shortest _ _ _ _ _ ?_⟩
     · simp only [bs,Option.bind_some,Bool.not_true,cond_false,s61,d1,Bool.false_and,Bool.not_false,cond_true,List.map_nil]
     · simp only [bi,Option.bind_some,Bool.not_true,cond_false,x0,decide_true,cond_true,List.map_nil]
   by_cases x1:(ns.length:Int)≤x
   · have d1:decide (x≤(ns.length:Int)-1)=false:=decide_eq_false (by omega)
     refine ⟨[],4,by simp,us_Shortest _ _ _ _ _ ?_,ui_Shortest _ _ _ _ _ ?_⟩
     · simp only [bs,Option.bind_some,Bool.not_true,cond_false,List.length_map,w1,s61,d1,Bool.and_false,Bool.not_false,cond_true,List.map_nil]
     · simp only [bi,Option.bind_some,Bool.not_true,cond_false,List.length_map,x0,x1,decide_false,decide_true,cond_true,List.map_nil]
   obtain ⟨z,rfl⟩ : ∃z:Nat,x=z:=⟨x.toNat,by omega⟩
   have hz:z<ns.length:=by omega
   have d1:decide ((z:Int)≤(ns.length:Int)-1)=true:=decide_eq_true (by omega)
   have hL : ∀i,-1≤L i∧L i≤1000:=fun i=>⟨l2.neg i,f3 i⟩
   by_cases y0:L z<0
   · refine ⟨[],6,by simp,us_Shortest _ _ _ _ _ ?_,ui_Shortest _ _ _ _ _ ?_⟩
     · simp only [bs,Option.bind_some,Bool.not_true,cond_false,List.length_map,w1,s61,d0_true,d1,Bool.and_self,l1,rI_len,lt_true hz,cond_true,Int.toNat_natCast,rI_get _ hz,sh_int,to_int,y0,decide_true,List.map_nil]
     · simp only [bi,Option.bind_some,Bool.not_true,cond_false,List.length_map,x0,x1,decide_false,f1,d0_true,rI_len,lt_true hz,blt_true hz,Bool.and_self,cond_true,Int.toNat_natCast,rI_get _ hz,sh_int,to_int,y0,decide_true,List.map_nil]
   by_cases y1:200<L z
   · refine ⟨[],3,by simp,us_Shortest _ _ _ _ _ ?_,ui_Shortest _ _ _ _ _ ?_⟩
     · simp only [bs,Option.bind_some,Bool.not_true,cond_false,List.length_map,w1,s61,d0_true,d1,Bool.and_self,l1,rI_len,lt_true hz,cond_true,Int.toNat_natCast,rI_get _ hz,sh_int,to_int,y0,y1,decide_true,decide_false,List.map_nil]
     · simp only [bi,Option.bind_some,Bool.not_true,cond_false,List.length_map,x0,x1,decide_false,f1,d0_true,rI_len,lt_true hz,blt_true hz,Bool.and_self,cond_true,Int.toNat_natCast,rI_get _ hz,sh_int,to_int,y0,y1,decide_true,List.map_nil]
   obtain ⟨H,W,wi,v1,v2⟩:=words_ex (T:=ts.map avTerm) (Ns:=ns.map sv) (own:=own) h hT hL (z:Int) (rB ns.length f) (rB ns.length k) (mB ns.length ts.length F) (bT ns.length B) _ (fun _=>false) (fun _=>[]) ⟨fun i hi=>(by cases hi),fun i hi=>(by cases hi),fun i _=>rfl⟩ (Nat.lt_succ_self _)
   have c1:capB ns.length 24=true:=capB_le (by omega)
   have c2:capB ns.length 1=true:=capB_le (by omega)
   have le:decide ((ns.length:Int)≤(ns.length:Int))=true:=by simp
   have r1:List.replicate ns.length (AVal.bool false)=rB ns.length fun _=>false:=tbl_rep _ _
   have r3:List.replicate ns.length (AVal.own 1 [])=bT ns.length fun _=>[]:=tbl_rep _ _
   have hw:(W z).length≤1000:=by
    cases hh:H z with
    | false=>rw [wi.no z hh];simp
    | true=>have:=wi.len z hh;have:=hL z;omega
   have c3:capB (0+(W z).length) 8=true:=capB_le (by omega)
   have ar:Fi_around_w (ts.map avTerm) (ns.map sv) own (ps.map avProd) (rB ns.length fun _=>false) (bT ns.length fun _=>[]) (ts.map avTerm) (ns.map sv) own (ps.map avProd) (ts.length:Int) (ns.length:Int) (rB ns.length f) (rB ns.length k) (rI ns.length L) (mB ns.length ts.length F) (bT ns.length B)=some (ts.map avTerm,ns.map sv,own,ps.map avProd,rB ns.length H,bT ns.length W,ts.map avTerm,ns.map sv,own,ps.map avProd,(ts.length:Int),(ns.length:Int),rB ns.length f,rB ns.length k,rI ns.length L,mB ns.length ts.length F,bT ns.length B):=by
    refine ui_around_w _ _ _ _ _ _ _ _ _ _ _ _ _ _ _ _ _ ?_
    simp only [v2,Option.bind_some]
   refine ⟨W z,0,hw,us_Shortest _ _ _ _ _ ?_,ui_Shortest _ _ _ _ _ ?_⟩
   · simp only [bs,Option.bind_some,Bool.not_true,cond_false,List.length_map,w1,s61,d0_true,d1,le,Bool.and_self,l1,rI_len,lt_true hz,cond_true,Int.toNat_natCast,rI_get _ hz,sh_int,to_int,y0,y1,decide_false,c1,c2,r1,r3,v1,bT_len,blt_true hz,bT_get _ hz,sh_own,sho_own,el_own,plain_iv,c3,asRoL_map asRo_iv]
   · simp only [bi,Option.bind_some,Bool.not_true,cond_false,List.length_map,x0,x1,decide_false,f1,d0_true,rI_len,lt_true hz,blt_true hz,Bool.and_self,cond_true,Int.toNat_natCast,rI_get _ hz,sh_int,to_int,y0,y1,le,c1,c2,r1,r3,ar,bT_len,bT_get _ hz,sh_own,sho_own,el_own,plain_iv,c3]
theorem lawSh (ts:List TermD) (ns:List ByteArray) (own:Int) (ps:List ProdD) (x:Int) (h:wfBnf (ts,ns,own,ps)) :
 Fl_FnExactShortest (ts.map avTerm) (ns.map sv) own (ps.map avProd) x=some true:=by
 refine ul_FnExactShortest _ _ _ _ _ ?_
 have t1:=tzBnf (ts,ns,own,ps) 1048576 h (by omega) (by omega)
 simp only at t1
 simp only [t1,Option.bind_some]
 by_cases g:szR 1048576 (szBnf (ts,ns,own,ps))<0
 · simp only [g,decide_true,cond_true]
 have z:=szR_nn g
 have z:szBnf (ts,ns,own,ps)≤1048576:=by omega
 have e1:=toBnf (ts,ns,own,ps) z
 have e2:=eqBnf (ts,ns,own,ps) z
 have hc:cntBnf (ts,ns,own,ps)≤10*1048576:=by
  have q1 : ∀l:List TermD,cntTermS l=3*l.length:=fun l=>by induction l with|nil=>rfl|cons x l ih=>simp only [cntTermS,cntTerm,ih,List.length_cons];omega
  have q2 : ∀l:List ProdD,cntProdS l≤4*l.length+totProd l:=fun l=>by induction l with|nil=>simp [cntProdS]|cons x l ih=>simp only [cntProdS,cntProd,totProd,szProd,List.length_cons];omega
  have:=q2 ps
  simp only [cntBnf,q1]
  unfold szBnf szTermS szStringS szProdS at z
  simp only at z ⊢
  omega
 have m1:=mrBnf (ts,ns,own,ps) 1 z (by omega) (by simp only [cntBnf] at hc;simp only;omega)
 simp only at e1 e2 m1
 simp only [cntBnf] at hc
 have n1 : ¬(1+((cntTermS ts:Nat):Int)+((ns.length:Nat):Int)+((cntProdS ps:Nat):Int)<0):=by omega
 obtain ⟨V,c,l1,es,ei⟩:=short2 ts ns own ps x
 have k1:=s26 V 1 (by omega) (by omega) (by omega)
 have k3:=s28 V.length 1 (by omega) (by omega) (by omega)
 have n2 : ¬(1+(V.length:Int)<0):=by omega
 simp only [g,decide_false,cond_false,e1,e2,Option.bind_some,asRoL_map2 asRo_Term,asRoL_map2 asRo_sv,asRoL_map2 asRo_Prod,asRoL_map asRo_iv,es,ei,noRoL_map noRo_iv,Bool.and_self,cond_true,
  s24 V (by omega),Bool.not_true,decide_true,m1,n1,n2,k1,k3,asRo_marks]
theorem lawShortest : ∀xs,FitsL ctx [ty_laws_Bnf,ty_int] xs → ∃k,vcall ctx k n_l_FnExactShortest xs []=some ([.bool true],[]):=by
 intro xs h
 obtain ⟨x,r,rfl,h1,h⟩:=h.cons'
 obtain ⟨y,r,rfl,h2,h⟩:=h.cons'
 obtain rfl:=h.nil'
 obtain ⟨⟨ts,ns,own,ps⟩,rfl,w1⟩:=fitBnf h1
 obtain ⟨n,rfl,_⟩:=h2.int' (k:=.i64) (by kernel_rfl)
 exact law_of (S:=sgl_FnExactShortest) (a:=(ts.map avTerm,ns.map sv,own,ps.map avProd,n)) (lawSh ts ns own ps n w1) rfl rfl
end Go.Proofs.Ytgoaegbddpmiiaa
