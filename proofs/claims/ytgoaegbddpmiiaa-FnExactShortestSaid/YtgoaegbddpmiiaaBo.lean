/- Plain rules: what BnfOK asks, in the reference and in the program; no condition. -/
import Derived.Test.YtgoaegbddpmiiaaBb
import Derived.Test.YtgoaegbddpmiiaaNm
import Derived.Test.YtgoaegbddpmiiaaXb
import Derived.Test.YtgoaegbddpmiiaaMp
import Derived.Test.YtgoaegbddpmiiaaLo
namespace Go.Proofs.Ytgoaegbddpmiiaa
open Go.VK AVal
def lvQ (l a:Int):Bool:=inQ 0 8 l&&((decide (l=0)&&decide (a=0))||(decide (0<l)&&inQ 1 3 a))
theorem lv_spec (l a:Int):Fs_l04Strength l a=some (lvQ l a):=by
 refine us_l04Strength _ _ ?_
 simp only [s61',Option.bind_some,lvQ]
 cases g:inQ 0 8 l with
 | false=>rfl
 | true=>
   by_cases g1:l=0
   · subst g1;by_cases g2:a=0 <;> simp [g2]
   · by_cases g2:0<l <;> simp [g1,g2]
theorem lv_impl (l a:Int):Fi_levelOK l a=some (lvQ l a):=by
 refine ui_levelOK _ _ ?_
 unfold lvQ inQ
 by_cases g1:l<0
 · have : ¬0≤l:=by omega
   simp [g1,this]
 · by_cases g2:8<l
   · have : ¬l≤8:=by omega
     simp [g1,g2,this]
   · have h1:0≤l:=by omega
     have h2:l≤8:=by omega
     by_cases g3:l=0
     · subst g3;simp
     · have h3:0<l:=by omega
       by_cases g4:1≤a <;> simp [g1,g2,h1,h2,g3,h3,g4]
def atQ (xs:List ByteArray) (s:ByteArray):Int:=match firstF (fun i=>bif decide (xs.getD i ByteArray.empty=s) then some ((i:Nat):Int) else none) 0 xs.length with|some i=>i|none => -1
theorem at_spec (xs:List ByteArray) (s:ByteArray) (hl:xs.length≤1048576):Fs_l03At (xs.map sv) s=some (atQ xs s):=by
 refine us_l03At _ _ ?_
 have e:=loop_first (fun i=>Ls_l03At_0 (xs.map sv) s (i:Int)) xs.length (fun i=>bif decide (xs.getD i ByteArray.empty=s) then some ((i:Nat):Int) else none) () (by
  refine ls_l03At_0 _ _ _ ?_
  simp only [List.length_map,lt_self,cond_false]) (fun i hi y hy=>by
  refine ls_l03At_0 _ _ _ ?_
  rw [←hy]
  have h1:CT.shape .str (sv (xs.getD i ByteArray.empty))=true:=rfl
  have h2:(sv (xs.getD i ByteArray.empty)).toStr=xs.getD i ByteArray.empty:=rfl
  simp only [List.length_map,lt_true hi,d0_true,Bool.and_self,cond_true,Int.toNat_natCast,getD_map' sv ByteArray.empty hi,h1,h2,wrap_i (show i<9000000000000000000 by omega)]
  cases decide (xs.getD i ByteArray.empty=s) <;> rfl) xs.length 0 (by omega)
 simp only [Int.natCast_zero] at e
 rw [e]
 unfold atQ
 cases firstF (fun i=>bif decide (xs.getD i ByteArray.empty=s) then some ((i:Nat):Int) else none) 0 xs.length <;> rfl
theorem firstF_at {P:Nat→Bool} : ∀m i (k:Nat),i≤k→k<i+m→P k=true→(firstF (fun j=>bif P j then some ((j:Nat):Int) else none) i m=some (k:Int) ↔ ∀j,i≤j→j<k→P j=false)
 | 0,i,k,h1,h2,_=>by omega
 | m+1,i,k,h1,h2,hk=>by
   simp only [firstF]
   by_cases g:i=k
   · subst g
     rw [hk]
     simp only [cond_true,true_iff]
     intro j h3 h4;omega
   · cases hi:P i with
     | true=>
       simp only [cond_true,Option.some.injEq]
       constructor
       · intro e;omega
       · intro h;have:=h i (Nat.le_refl _) (by omega);rw [hi] at this;cases this
     | false=>
       simp only [cond_false]
       rw [firstF_at m (i+1) k (by omega) (by omega) hk]
       constructor
       · intro h j h3 h4
         by_cases hj:j=i
         · subst hj;exact hi
         · exact h j (by omega) h4
       · intro h j h3 h4;exact h j (by omega) h4
def newQ (xs:List ByteArray) (i:Nat):Bool := !(xs.take i).any fun x=>decide (xs.getD i ByteArray.empty=x)
theorem newQ_iff {xs:List ByteArray} {i:Nat} (hi:i<xs.length):newQ xs i=true ↔ ∀j,j<i→xs.getD j ByteArray.empty≠xs.getD i ByteArray.empty:=by
 unfold newQ
 simp only [Bool.not_eq_true',List.any_eq_false,decide_eq_true_eq]
 constructor
 · intro h j hj e
   refine h (xs.getD j ByteArray.empty) (List.mem_iff_getElem.2 ⟨j,by simp;omega,?_⟩) e.symm
   rw [List.getElem_take]
   simp [List.getD_eq_getElem?_getD,show j<xs.length by omega]
 · intro h x hm e
   obtain ⟨j,hj,e2⟩:=List.mem_iff_getElem.1 hm
   simp only [List.length_take] at hj
   refine h j (by omega) ?_
   rw [e,←e2,List.getElem_take]
   simp [List.getD_eq_getElem?_getD,show j<xs.length by omega]
theorem atQ_self {xs:List ByteArray} {i:Nat} (hi:i<xs.length):decide (atQ xs (xs.getD i ByteArray.empty)=(i:Int))=newQ xs i:=by
 rw [Bool.eq_iff_iff,decide_eq_true_eq,newQ_iff hi]
 have h:=firstF_at (P:=fun j=>decide (xs.getD j ByteArray.empty=xs.getD i ByteArray.empty)) xs.length 0 i (Nat.zero_le _) (by omega) (by simp)
 unfold atQ
 constructor
 · intro e
   have:firstF (fun j=>bif decide (xs.getD j ByteArray.empty=xs.getD i ByteArray.empty) then some ((j:Nat):Int) else none) 0 xs.length=some (i:Int):=by
    cases g:firstF (fun j=>bif decide (xs.getD j ByteArray.empty=xs.getD i ByteArray.empty) then some ((j:Nat):Int) else none) 0 xs.length with
    | none=>rw [g] at e;simp only at e;omega
    | some k=>rw [g] at e;simp only at e;rw [e]
   intro j hj
   have:=(h.1 this) j (Nat.zero_le _) hj
   simpa using this
 · intro e
   rw [h.2 fun j _ hj=>decide_eq_false (e j hj)]
def tD:TermD:=(ByteArray.empty,0,0)
def pD:ProdD:=(0,[],ByteArray.empty,0,0)
def nmT (ts:List TermD):List ByteArray:=ts.map (·.1)
def trQ (ts:List TermD) (i:Nat):Bool:=lvQ (ts.getD i tD).2.1 (ts.getD i tD).2.2&&newQ (nmT ts) i
def syQ (all:Nat) (s:Int):Bool:=inQ 0 ((all:Int)-1) s
def prQ (nt nn:Nat) (p:ProdD):Bool:=
 inQ nt ((nt:Int)+nn-1) p.1&&(decide (p.2.1.length≤12)&&((decide (p.2.2.1=ByteArray.empty)||nmOK p.2.2.1)&&(lvQ p.2.2.2.1 p.2.2.2.2&&allN (fun i=>syQ (nt+nn) (p.2.1.getD i 0)) p.2.1.length)))
def bnfQ (ts:List TermD) (ns:List ByteArray) (own:Int) (ps:List ProdD):Bool:=
 decide (ts.length≤60)&&(inQ 1 100 ns.length&&(inQ 1 ns.length own&&(decide (ps.length≤120)&&(allN (trQ ts) ts.length&&(allN (newQ ns) ns.length&&allN (fun i=>prQ ts.length ns.length (ps.getD i pD)) ps.length)))))
theorem nm_get {ts:List TermD} {i:Nat} (h:i<ts.length):(nmT ts).getD i ByteArray.empty=(ts.getD i tD).1:=by
 simp [nmT,List.getD_eq_getElem?_getD,h]
theorem bo_s1 (ts:List TermD) (N:List AVal) (own:Int) (P:List AVal) (hl:ts.length≤60) {i:Nat} (hi:i<ts.length) :
 Ls_BnfOK_1 (i:Int) 0 (ts.map avTerm) N own P=some (bif newQ (nmT ts) i then .inr ((i:Int),ts.map avTerm,N,own,P) else .inl false):=by
 have e:=loop_all (fun k=>Ls_BnfOK_1 (i:Int) (k:Int) (ts.map avTerm) N own P) i (fun k => !decide ((ts.getD k tD).1=(ts.getD i tD).1)) ((i:Int),ts.map avTerm,N,own,P) (by
  refine ls_BnfOK_1 _ _ _ _ _ _ ?_
  simp only [lt_self,cond_false]) (fun k hk y hy=>by
  refine ls_BnfOK_1 _ _ _ _ _ _ ?_
  rw [←hy]
  have hk2:k<ts.length:=by omega
  simp only [List.length_map,lt_true hk,lt_true hk2,d0_true,Bool.and_self,lt_true hi,d0_true,Bool.and_self,cond_true,Int.toNat_natCast,getD_map' avTerm tD hk2,getD_map' avTerm tD hi,p0_Term,c0_Term,wrap_i (show k<9000000000000000000 by omega)]
  cases decide ((ts.getD k tD).1=(ts.getD i tD).1) <;> rfl)
 simp only [Int.natCast_zero] at e
 rw [e]
 congr 2
 rw [Bool.eq_iff_iff,allN_iff,newQ_iff (by simpa [nmT] using hi)]
 constructor
 · intro h j hj
   rw [nm_get (show j<ts.length by omega),nm_get hi]
   simpa using h j hj
 · intro h j hj
   have:=h j hj
   rw [nm_get (show j<ts.length by omega),nm_get hi] at this
   simpa using this
theorem bo_s0 (ts:List TermD) (N:List AVal) (own:Int) (P:List AVal) (hl:ts.length≤60) :
 Ls_BnfOK_0 0 (ts.map avTerm) N own P=some (bif allN (trQ ts) ts.length then .inr (ts.map avTerm,N,own,P) else .inl false):=by
 have e:=loop_all (fun i=>Ls_BnfOK_0 (i:Int) (ts.map avTerm) N own P) ts.length (trQ ts) (ts.map avTerm,N,own,P) (by
  refine ls_BnfOK_0 _ _ _ _ _ ?_
  simp only [List.length_map,lt_self,cond_false]) (fun i hi y hy=>by
  refine ls_BnfOK_0 _ _ _ _ _ ?_
  rw [←hy]
  simp only [List.length_map,lt_true hi,d0_true,Bool.and_self,cond_true,Int.toNat_natCast,getD_map' avTerm tD hi,p1_Term,p2_Term,c1_Term,c2_Term,lv_spec,Option.bind_some,bo_s1 ts N own P hl hi,trQ]
  cases lvQ (ts.getD i tD).2.1 (ts.getD i tD).2.2 with
  | false=>rfl
  | true=>
    cases newQ (nmT ts) i with
    | false=>rfl
    | true=>simp only [Bool.not_true,cond_false,cond_true,Bool.and_self,Option.bind_some,Sum.elim_inr,wrap_i (show i<9000000000000000000 by omega)])
 simpa using e
theorem bo_s2 (T:List AVal) (ns:List ByteArray) (own:Int) (P:List AVal) (hl:ns.length≤100) :
 Ls_BnfOK_2 0 T (ns.map sv) own P=some (bif allN (newQ ns) ns.length then .inr (T,ns.map sv,own,P) else .inl false):=by
 have e:=loop_all (fun i=>Ls_BnfOK_2 (i:Int) T (ns.map sv) own P) ns.length (newQ ns) (T,ns.map sv,own,P) (by
  refine ls_BnfOK_2 _ _ _ _ _ ?_
  simp only [List.length_map,lt_self,cond_false]) (fun i hi y hy=>by
  refine ls_BnfOK_2 _ _ _ _ _ ?_
  rw [←hy]
  have h1:CT.shape .str (sv (ns.getD i ByteArray.empty))=true:=rfl
  have h2:(sv (ns.getD i ByteArray.empty)).toStr=ns.getD i ByteArray.empty:=rfl
  simp only [List.length_map,lt_true hi,d0_true,Bool.and_self,cond_true,Int.toNat_natCast,getD_map' sv ByteArray.empty hi,h1,h2,at_spec ns _ (by omega),Option.bind_some,atQ_self hi,wrap_i (show i<9000000000000000000 by omega)]
  cases newQ ns i <;> rfl)
 simpa using e
theorem bo_s4 (nt nn:Nat) (h1:nt≤60) (h2:nn≤100) (i:Int) (A B P:List AVal) (own a c d:Int) (s:ByteArray) (r:List Int) (hr:r.length≤12) :
 Ls_BnfOK_4 ((nt+nn:Nat):Int) i 0 A B own P a (r.map iv) s c d=some (bif allN (fun j=>syQ (nt+nn) (r.getD j 0)) r.length then .inr (((nt+nn:Nat):Int),i,A,B,own,P) else .inl false):=by
 have e:=loop_all (fun j=>Ls_BnfOK_4 ((nt+nn:Nat):Int) i (j:Int) A B own P a (r.map iv) s c d) r.length (fun j=>syQ (nt+nn) (r.getD j 0)) (((nt+nn:Nat):Int),i,A,B,own,P) (by
  refine ls_BnfOK_4 _ _ _ _ _ _ _ _ _ _ _ _ ?_
  simp only [List.length_map,lt_self,cond_false]) (fun j hj y hy=>by
  refine ls_BnfOK_4 _ _ _ _ _ _ _ _ _ _ _ _ ?_
  rw [←hy]
  have ew:IntKind.wrap .i64 (((nt+nn:Nat):Int)-1)=((nt+nn:Nat):Int)-1:=wrap64 (by omega) (by omega)
  simp only [List.length_map,lt_true hj,d0_true,Bool.and_self,cond_true,Int.toNat_natCast,getD_map' iv 0 hj,e_int,e_toInt,ew,s61',Option.bind_some,wrap_i (show j<9000000000000000000 by omega),syQ]
  cases inQ 0 (((nt+nn:Nat):Int)-1) (r.getD j 0) <;> rfl)
 simpa using e
theorem bo_s3 (ts:List TermD) (N:List ByteArray) (own:Int) (ps:List ProdD) (h1:ts.length≤60) (h2:N.length≤100) (hl:ps.length≤120) :
 Ls_BnfOK_3 ((ts.length+N.length:Nat):Int) 0 (ts.map avTerm) (N.map sv) own (ps.map avProd)=some (bif allN (fun i=>prQ ts.length N.length (ps.getD i pD)) ps.length then .inr () else .inl false):=by
 have e:=loop_all (fun i=>Ls_BnfOK_3 ((ts.length+N.length:Nat):Int) (i:Int) (ts.map avTerm) (N.map sv) own (ps.map avProd)) ps.length (fun i=>prQ ts.length N.length (ps.getD i pD)) () (by
  refine ls_BnfOK_3 _ _ _ _ _ _ ?_
  simp only [List.length_map,lt_self,cond_false]) (fun i hi y hy=>by
  refine ls_BnfOK_3 _ _ _ _ _ _ ?_
  rw [←hy]
  have ew:IntKind.wrap .i64 (((ts.length+N.length:Nat):Int)-1)=(ts.length:Int)+N.length-1:=by rw [wrap64 (by omega) (by omega)];omega
  have ee:ByteArray.mk #[]=ByteArray.empty:=rfl
  simp only [List.length_map,lt_true hi,d0_true,Bool.and_self,cond_true,Int.toNat_natCast,getD_map' avProd pD hi,sh_Prod,c0_Prod,c1_Prod,c2_Prod,c3_Prod,c4_Prod,ew,s61',s108,lv_spec,Option.bind_some,prQ,ee]
  generalize ps.getD i pD=p
  cases inQ (ts.length:Int) ((ts.length:Int)+N.length-1) p.1 with
  | false=>rfl
  | true=>
    by_cases g1:p.2.1.length≤12
    · have g1' : ¬(12:Int)<(p.2.1.length:Int):=by omega
      simp only [g1,g1',bo_s4 ts.length N.length h1 h2 (i:Int) _ _ _ _ _ _ _ _ p.2.1 g1,decide_true,decide_false,Bool.not_true,cond_false,Bool.true_and]
      by_cases g2:p.2.2.1=ByteArray.empty
      · simp only [g2,decide_true,Bool.not_true,cond_false,Bool.true_or,Bool.true_and]
        cases lvQ p.2.2.2.1 p.2.2.2.2 with
        | false=>rfl
        | true=>
          cases allN (fun j=>syQ (ts.length+N.length) (p.2.1.getD j 0)) p.2.1.length with
          | false=>rfl
          | true=>simp only [Bool.not_true,cond_false,cond_true,Bool.and_self,Option.bind_some,Sum.elim_inr,wrap_i (show i<9000000000000000000 by omega)]
      · simp only [g2,decide_false,Bool.not_false,cond_true,Bool.false_or]
        cases nmOK p.2.2.1 with
        | false=>rfl
        | true=>
          cases lvQ p.2.2.2.1 p.2.2.2.2 with
          | false=>rfl
          | true=>
            cases allN (fun j=>syQ (ts.length+N.length) (p.2.1.getD j 0)) p.2.1.length with
            | false=>rfl
            | true=>simp only [Bool.not_true,cond_false,cond_true,Bool.and_self,Option.bind_some,Sum.elim_inr,wrap_i (show i<9000000000000000000 by omega)]
    · have g1':(12:Int)<(p.2.1.length:Int):=by omega
      simp only [g1,g1',decide_true,decide_false,Bool.not_true,cond_false,cond_true,Bool.false_and,Bool.and_false])
 simpa using e
theorem bo_spec (ts:List TermD) (ns:List ByteArray) (own:Int) (ps:List ProdD):Fs_BnfOK (ts.map avTerm) (ns.map sv) own (ps.map avProd)=some (bnfQ ts ns own ps):=by
 refine us_BnfOK _ _ _ _ ?_
 unfold bnfQ
 by_cases g1:ts.length≤60
 · have g1' : ¬(60:Int)<(ts.length:Int):=by omega
   cases g2:inQ 1 100 (ns.length:Int) with
   | false=>simp only [List.length_map,g1,g1',s61',g2,Option.bind_some,decide_true,decide_false,cond_false,cond_true,Bool.not_false,Bool.true_and,Bool.false_and]
   | true=>
     have b2:ns.length≤100:=by simp only [inQ,Bool.and_eq_true,decide_eq_true_eq] at g2;omega
     cases g3:inQ 1 (ns.length:Int) own with
     | false=>simp only [List.length_map,g1,g1',s61',g2,g3,Option.bind_some,decide_true,decide_false,cond_false,cond_true,Bool.not_false,Bool.not_true,Bool.true_and,Bool.false_and]
     | true=>
       by_cases g4:ps.length≤120
       · have g4' : ¬(120:Int)<(ps.length:Int):=by omega
         have ew:IntKind.wrap .i64 ((ts.length:Int)+(ns.length:Int))=((ts.length+ns.length:Nat):Int):=by rw [wrap64 (by omega) (by omega)];omega
         simp only [List.length_map,g1,g1',s61',g2,g3,g4,g4',Option.bind_some,decide_true,decide_false,cond_false,Bool.not_true,Bool.true_and,bo_s0 ts _ _ _ g1]
         cases allN (trQ ts) ts.length with
         | false=>rfl
         | true=>
           simp only [cond_true,Option.bind_some,Sum.elim_inr,bo_s2 _ ns own _ b2]
           cases allN (newQ ns) ns.length with
           | false=>rfl
           | true=>
             simp only [cond_true,Option.bind_some,Sum.elim_inr,List.length_map,ew,bo_s3 ts ns own ps g1 b2 g4]
             cases allN (fun i=>prQ ts.length ns.length (ps.getD i pD)) ps.length <;> rfl
       · have g4':(120:Int)<(ps.length:Int):=by omega
         simp only [List.length_map,g1,g1',s61',g2,g3,g4,g4',Option.bind_some,decide_true,decide_false,cond_false,cond_true,Bool.not_true,Bool.true_and,Bool.false_and]
 · have g1':(60:Int)<(ts.length:Int):=by omega
   simp only [List.length_map,g1,g1',decide_true,decide_false,cond_true,Bool.false_and]
def seenS (xs:List ByteArray):List AVal:=dS (ones xs)
theorem seen_get (xs:List ByteArray) (t:ByteArray):(mpGet (kcode (.str t)) (seenS xs)).getD (.int .i64 0)=iv (bif xs.any (fun x=>decide (t=x)) then 1 else 0):=by
 rw [seenS,dS_get,oiv_getD,dlast_ones]
 cases xs.any (fun x=>decide (t=x)) <;> rfl
theorem seen_snoc (xs:List ByteArray) (t:ByteArray):mpIns (.str t) (.int .i64 1) (seenS xs)=seenS (xs++[t]):=by
 rw [seenS,seenS,ones_snoc,dS_snoc];rfl
theorem take_snoc {α:Type} (d:α) {xs:List α} {i:Nat} (h:i<xs.length):xs.take i++[xs.getD i d]=xs.take (i+1):=by
 rw [List.take_succ_eq_append_getElem h]
 simp [List.getD_eq_getElem?_getD,h]
theorem bo_i0 (ts:List TermD) (N:List AVal) (own:Int) (P:List AVal) (hl:ts.length≤60) :
 Li_BnfOK_0 (ts.map avTerm) (ts.length:Int) 0 (ts.map avTerm) N own P []=some (bif allN (trQ ts) ts.length then .inr (ts.map avTerm,N,own,P) else .inl false):=by
 have e:=loop_all (fun i=>Li_BnfOK_0 (ts.map avTerm) (ts.length:Int) (i:Int) (ts.map avTerm) N own P (seenS ((nmT ts).take i))) ts.length (trQ ts) (ts.map avTerm,N,own,P) (by
  refine li_BnfOK_0 _ _ _ _ _ _ _ _ ?_
  simp only [lt_self,cond_false]) (fun i hi y hy=>by
  refine li_BnfOK_0 _ _ _ _ _ _ _ _ ?_
  rw [←hy]
  have hn:i<(nmT ts).length:=by simpa [nmT] using hi
  simp only [List.length_map,lt_true hi,d0_true,Bool.and_self,cond_true,Int.toNat_natCast,getD_map' avTerm tD hi,sh_Term,c0_Term,c1_Term,c2_Term,lv_impl,Option.bind_some,trQ,seen_get,seen_snoc,e_int,e_toInt,←nm_get hi,take_snoc ByteArray.empty hn,wrap_i (show i<9000000000000000000 by omega)]
  unfold newQ
  cases ((nmT ts).take i).any (fun x=>decide ((nmT ts).getD i ByteArray.empty=x)) with
  | true=>simp only [cond_true,Bool.not_true,Bool.and_false,cond_false];rfl
  | false=>cases lvQ (ts.getD i tD).2.1 (ts.getD i tD).2.2 <;> rfl)
 simpa [seenS,ones,dS] using e
theorem bo_i1 (T:List AVal) (ns:List ByteArray) (own:Int) (P:List AVal) (hl:ns.length≤100) :
 Li_BnfOK_1 (ns.map sv) (ns.length:Int) 0 T (ns.map sv) own P []=some (bif allN (newQ ns) ns.length then .inr (T,ns.map sv,own,P) else .inl false):=by
 have e:=loop_all (fun i=>Li_BnfOK_1 (ns.map sv) (ns.length:Int) (i:Int) T (ns.map sv) own P (seenS (ns.take i))) ns.length (newQ ns) (T,ns.map sv,own,P) (by
  refine li_BnfOK_1 _ _ _ _ _ _ _ _ ?_
  simp only [lt_self,cond_false]) (fun i hi y hy=>by
  refine li_BnfOK_1 _ _ _ _ _ _ _ _ ?_
  rw [←hy]
  have h1:CT.shape .str (sv (ns.getD i ByteArray.empty))=true:=rfl
  have h2:(sv (ns.getD i ByteArray.empty)).toStr=ns.getD i ByteArray.empty:=rfl
  simp only [List.length_map,lt_true hi,d0_true,Bool.and_self,cond_true,Int.toNat_natCast,getD_map' sv ByteArray.empty hi,h1,h2,seen_get,seen_snoc,e_int,e_toInt,take_snoc ByteArray.empty hi,wrap_i (show i<9000000000000000000 by omega)]
  unfold newQ
  cases (ns.take i).any (fun x=>decide (ns.getD i ByteArray.empty=x)) <;> rfl)
 simpa [seenS,ones,dS] using e
theorem bo_i3 (nt nn:Nat) (h1:nt≤60) (h2:nn≤100) (A B C D:List AVal) (i n own:Int) (r:List Int) (hr:r.length≤12) :
 Li_BnfOK_3 ((nt+nn:Nat):Int) A n i (r.map iv) (r.length:Int) 0 B C own D=some (bif allN (fun j=>syQ (nt+nn) (r.getD j 0)) r.length then .inr (((nt+nn:Nat):Int),A,n,i,B,C,own,D) else .inl false):=by
 have e:=loop_all (fun j=>Li_BnfOK_3 ((nt+nn:Nat):Int) A n i (r.map iv) (r.length:Int) (j:Int) B C own D) r.length (fun j=>syQ (nt+nn) (r.getD j 0)) (((nt+nn:Nat):Int),A,n,i,B,C,own,D) (by
  refine li_BnfOK_3 _ _ _ _ _ _ _ _ _ _ _ ?_
  simp only [lt_self,cond_false]) (fun j hj y hy=>by
  refine li_BnfOK_3 _ _ _ _ _ _ _ _ _ _ _ ?_
  rw [←hy]
  simp only [List.length_map,lt_true hj,d0_true,Bool.and_self,cond_true,Int.toNat_natCast,getD_map' iv 0 hj,e_int,e_toInt,wrap_i (show j<9000000000000000000 by omega),syQ,inQ]
  generalize r.getD j 0=x
  by_cases g1:x<0
  · have : ¬0≤x:=by omega
    simp only [g1,this,decide_true,decide_false,cond_true,cond_false,Bool.false_and]
  · have g1':0≤x:=by omega
    by_cases g2:((nt+nn:Nat):Int)≤x
    · have : ¬x≤((nt+nn:Nat):Int)-1:=by omega
      simp only [g1,g1',g2,this,decide_true,decide_false,cond_true,cond_false,Bool.and_false]
    · have:x≤((nt+nn:Nat):Int)-1:=by omega
      simp only [g1,g1',g2,this,decide_true,decide_false,cond_true,cond_false,Bool.and_self])
 simpa using e
theorem bo_i2 (ts:List TermD) (N:List ByteArray) (own:Int) (ps:List ProdD) (h1:ts.length≤60) (h2:N.length≤100) (hl:ps.length≤120) :
 Li_BnfOK_2 ((ts.length+N.length:Nat):Int) (ps.map avProd) (ps.length:Int) 0 (ts.map avTerm) (N.map sv) own (ps.map avProd)=some (bif allN (fun i=>prQ ts.length N.length (ps.getD i pD)) ps.length then .inr () else .inl false):=by
 have e:=loop_all (fun i=>Li_BnfOK_2 ((ts.length+N.length:Nat):Int) (ps.map avProd) (ps.length:Int) (i:Int) (ts.map avTerm) (N.map sv) own (ps.map avProd)) ps.length (fun i=>prQ ts.length N.length (ps.getD i pD)) () (by
  refine li_BnfOK_2 _ _ _ _ _ _ _ _ ?_
  simp only [lt_self,cond_false]) (fun i hi y hy=>by
  refine li_BnfOK_2 _ _ _ _ _ _ _ _ ?_
  rw [←hy]
  have ee:ByteArray.mk #[]=ByteArray.empty:=rfl
  simp only [List.length_map,lt_true hi,d0_true,Bool.and_self,cond_true,Int.toNat_natCast,getD_map' avProd pD hi,sh_Prod,c0_Prod,c1_Prod,c2_Prod,c3_Prod,c4_Prod,s87,lv_impl,Option.bind_some,prQ,ee]
  generalize ps.getD i pD=p
  have q0:inQ (ts.length:Int) ((ts.length:Int)+N.length-1) p.1=(!decide (p.1<(ts.length:Int)) && !decide (((ts.length+N.length:Nat):Int)≤p.1)):=by
   rw [Bool.eq_iff_iff]
   simp only [inQ,Bool.and_eq_true,decide_eq_true_eq,Bool.not_eq_true',decide_eq_false_iff_not]
   omega
  rw [q0]
  cases decide (p.1<(ts.length:Int)) with
  | true=>rfl
  | false=>
    cases decide (((ts.length+N.length:Nat):Int)≤p.1) with
    | true=>rfl
    | false=>
    by_cases g1:p.2.1.length≤12
    · have g1' : ¬(12:Int)<(p.2.1.length:Int):=by omega
      simp only [g1,g1',bo_i3 ts.length N.length h1 h2 _ _ _ _ _ _ _ p.2.1 g1,decide_true,decide_false,Bool.not_false,cond_false,Bool.true_and]
      by_cases g2:p.2.2.1=ByteArray.empty
      · simp only [g2,decide_true,Bool.not_true,cond_false,Bool.true_or,Bool.true_and]
        cases lvQ p.2.2.2.1 p.2.2.2.2 with
        | false=>rfl
        | true=>
          cases allN (fun j=>syQ (ts.length+N.length) (p.2.1.getD j 0)) p.2.1.length with
          | false=>rfl
          | true=>simp only [Bool.not_true,cond_false,cond_true,Bool.and_self,Option.bind_some,Sum.elim_inr,wrap_i (show i<9000000000000000000 by omega)]
      · simp only [g2,decide_false,Bool.not_false,cond_true,Bool.false_or]
        cases nmOK p.2.2.1 with
        | false=>rfl
        | true=>
          cases lvQ p.2.2.2.1 p.2.2.2.2 with
          | false=>rfl
          | true=>
            cases allN (fun j=>syQ (ts.length+N.length) (p.2.1.getD j 0)) p.2.1.length with
            | false=>rfl
            | true=>simp only [Bool.not_true,cond_false,cond_true,Bool.and_self,Option.bind_some,Sum.elim_inr,wrap_i (show i<9000000000000000000 by omega)]
    · have g1':(12:Int)<(p.2.1.length:Int):=by omega
      simp only [g1,g1',decide_true,decide_false,Bool.not_false,cond_false,cond_true,Bool.false_and,Bool.and_false])
 simpa using e
theorem bo_impl (ts:List TermD) (ns:List ByteArray) (own:Int) (ps:List ProdD):Fi_BnfOK (ts.map avTerm) (ns.map sv) own (ps.map avProd)=some (bnfQ ts ns own ps):=by
 refine ui_BnfOK _ _ _ _ ?_
 unfold bnfQ
 by_cases g1:ts.length≤60
 · have g1' : ¬(60:Int)<(ts.length:Int):=by omega
   have q2:inQ 1 100 (ns.length:Int)=(!decide ((ns.length:Int)<1) && !decide (100<(ns.length:Int))):=by
    rw [Bool.eq_iff_iff]
    simp only [inQ,Bool.and_eq_true,decide_eq_true_eq,Bool.not_eq_true',decide_eq_false_iff_not]
    omega
   have q3:inQ 1 (ns.length:Int) own=(!decide (own<1) && !decide ((ns.length:Int)<own)):=by
    rw [Bool.eq_iff_iff]
    simp only [inQ,Bool.and_eq_true,decide_eq_true_eq,Bool.not_eq_true',decide_eq_false_iff_not]
    omega
   simp only [List.length_map,g1,g1',decide_true,decide_false,cond_false,Bool.true_and]
   rw [q2,q3]
   by_cases g2:(ns.length:Int)<1
   · simp only [g2,decide_true,cond_true,Bool.not_true,Bool.false_and]
   · by_cases g2b:100<(ns.length:Int)
     · simp only [g2,g2b,decide_true,decide_false,cond_true,cond_false,Bool.not_true,Bool.and_false,Bool.false_and]
     · have b2:ns.length≤100:=by omega
       by_cases g3:own<1
       · simp only [g2,g2b,g3,decide_true,decide_false,cond_true,cond_false,Bool.not_true,Bool.not_false,Bool.true_and,Bool.false_and]
       · by_cases g3b:(ns.length:Int)<own
         · simp only [g2,g2b,g3,g3b,decide_true,decide_false,cond_true,cond_false,Bool.not_true,Bool.not_false,Bool.true_and,Bool.false_and]
         · by_cases g4:ps.length≤120
           · have g4' : ¬(120:Int)<(ps.length:Int):=by omega
             have ew:IntKind.wrap .i64 ((ts.length:Int)+(ns.length:Int))=((ts.length+ns.length:Nat):Int):=by rw [wrap64 (by omega) (by omega)];omega
             simp only [g2,g2b,g3,g3b,g4,g4',decide_true,decide_false,cond_false,Bool.not_false,Bool.and_self,Bool.true_and,bo_i0 ts _ _ _ g1]
             cases allN (trQ ts) ts.length with
             | false=>rfl
             | true=>
               simp only [cond_true,Option.bind_some,Sum.elim_inr,List.length_map,bo_i1 _ ns own _ b2]
               cases allN (newQ ns) ns.length with
               | false=>rfl
               | true=>
                 simp only [cond_true,Option.bind_some,Sum.elim_inr,List.length_map,ew,bo_i2 ts ns own ps g1 b2 g4]
                 cases allN (fun i=>prQ ts.length ns.length (ps.getD i pD)) ps.length <;> rfl
           · have g4':(120:Int)<(ps.length:Int):=by omega
             simp only [g2,g2b,g3,g3b,g4,g4',decide_true,decide_false,cond_true,cond_false,Bool.not_false,Bool.and_self,Bool.true_and,Bool.false_and]
 · have g1':(60:Int)<(ts.length:Int):=by omega
   simp only [List.length_map,g1,g1',decide_true,decide_false,cond_true,Bool.false_and]
end Go.Proofs.Ytgoaegbddpmiiaa
