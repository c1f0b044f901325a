/- Layouts: both sides of LayoutOK; no condition. -/
import Derived.Test.YtnbpmjfemeeecaaXb
import Derived.Test.YtnbpmjfemeeecaaBly
import Derived.Test.YtnbpmjfemeeecaaLyp
namespace Go.Proofs.Ytnbpmjfemeeecaa
open Go.VK AVal
def nlQ (s:ByteArray):Bool := !allN (fun i => !decide (byteAt s i=10)) s.size
theorem in_spec (s:ByteArray) (hs:s.size≤1048576):Fs_l02In s 10=some (nlQ s):=by
 refine us_l02In _ _ ?_
 have e:=loop_first (fun i=>Ls_l02In_0 s 10 (i:Int)) s.size (fun i=>bif (!decide (byteAt s i=10)) then none else some true) () (by
  refine ls_l02In_0 _ _ _ ?_
  simp only [lt_self,cond_false]) (fun i hi y hy=>by
  refine ls_l02In_0 _ _ _ ?_
  rw [←hy]
  simp only [lt_true hi,d0_true,Bool.and_self,cond_true,Int.toNat_natCast,wrap_i (show i<9000000000000000000 by omega)]
  cases decide (byteAt s i=10) <;> rfl) s.size 0 (by omega)
 have q : ∀m i,firstF (fun i=>bif (!decide (byteAt s i=10)) then none else some true) i m=bif (List.range' i m).all (fun i => !decide (byteAt s i=10)) then none else some true:=by
  intro m
  induction m with
  | zero=>intro i;rfl
  | succ m ih=>
    intro i
    simp only [firstF,List.range'_succ,List.all_cons]
    cases decide (byteAt s i=10) with
    | true=>rfl
    | false=>simp only [Bool.not_false,cond_true,Bool.true_and,ih]
 simp only [Int.natCast_zero] at e
 rw [e,q]
 unfold nlQ allN
 rw [List.range_eq_range']
 cases (List.range' 0 s.size).all (fun i => !decide (byteAt s i=10)) <;> rfl
theorem idx_nl (s:ByteArray):decide (0≤idxOf s 10)=nlQ s:=by
 unfold idxOf firstIdx
 cases g:(List.range s.size).find? fun i=>s[i]! == (10:Int).toNat.toUInt8 with
 | none=>
   rw [List.find?_eq_none] at g
   have:allN (fun i => !decide (byteAt s i=10)) s.size=true:=by
    rw [allN_iff]
    intro i hi
    have:=g i (List.mem_range.2 hi)
    rw [Bool.not_eq_true',decide_eq_false_iff_not]
    intro q
    refine this ?_
    unfold byteAt at q
    rw [dif_pos hi] at q
    rw [getElem!_pos s i hi,beq_iff_eq]
    exact UInt8.toNat_inj.1 (by rw [show ((10:Int).toNat.toUInt8).toNat=10 from rfl];omega)
   unfold nlQ
   rw [this];rfl
 | some i=>
   have hi:=List.mem_range.1 (List.mem_of_find?_eq_some g)
   have:=List.find?_some g
   have h2:byteAt s i=10:=by
    unfold byteAt
    rw [dif_pos hi]
    rw [getElem!_pos s i hi,beq_iff_eq] at this
    rw [this];rfl
   unfold nlQ
   rw [allN_no hi (by simp [h2])]
   have:(0:Int)≤(i:Int):=by omega
   simp only [this,decide_true,Bool.not_false]
theorem in_impl (s:ByteArray):Fstrings_Contains s (ByteArray.mk #[10])=some (nlQ s):=by
 refine ustrings_Contains _ _ ?_
 have e:Fstrings_Index s (ByteArray.mk #[10])=some (bif decide (s=ByteArray.mk #[10]) then 0 else idxOf s 10):=by
  refine ustrings_Index _ _ ?_
  have e2:Finternal_stringslite_Index s (ByteArray.mk #[10])=some (bif decide (s=ByteArray.mk #[10]) then 0 else idxOf s 10):=by
   refine uinternal_stringslite_Index _ _ ?_
   have e3:Finternal_stringslite_IndexByte s 10=some (idxOf s 10):=uinternal_stringslite_IndexByte _ _ rfl
   have z:(((ByteArray.mk #[10]).size:Nat):Int)=1:=rfl
   have b:byteAt (ByteArray.mk #[10]) 0=10:=rfl
   by_cases q:s=ByteArray.mk #[10]
   · subst q;rfl
   · have q' : ¬ByteArray.mk #[10]=s:=fun h=>q h.symm
     simp only [z,b,e3,q,q',decide_false,cond_false,Option.bind_some]
     rfl
  rw [e2];rfl
 rw [e]
 simp only [Option.bind_some]
 by_cases q:s=ByteArray.mk #[10]
 · subst q;rfl
 · simp only [q,decide_false,cond_false,idx_nl]
def nodQ (x:LNodeD):Bool:=
 bif decide (x.1=1) then decide ((x.2.1.size:Int)≤200)&&(!nlQ x.2.1&&(decide (x.2.2.1=0)&&decide (x.2.2.2.length=0)))
 else bif decide (x.1=2)||(decide (x.1=3)||decide (x.1=4)) then decide (x.2.1=ByteArray.mk #[])&&(decide (x.2.2.1=0)&&decide (x.2.2.2.length=0))
 else bif decide (x.1=5) then decide (x.2.1=ByteArray.mk #[])&&(decide (x.2.2.2.length=1)&&inQ 0 20 x.2.2.1)
 else bif decide (x.1=6) then decide (x.2.1=ByteArray.mk #[])&&(decide (x.2.2.2.length=1)&&decide (x.2.2.1=0))
 else bif decide (x.1=7) then decide (x.2.1=ByteArray.mk #[])&&decide (x.2.2.1=0) else false
def nD:LNodeD:=(0,ByteArray.empty,0,[])
def kdA (d:List LNodeD) (i:Nat):List Int:=(d.getD i nD).2.2.2
def nqA (d:List LNodeD) (i:Nat):Bool:=nodQ (d.getD i nD)
def grF (d:List LNodeD) (i n:Nat):Nat:=bif decide ((d.getD i nD).1=6) then n+1 else n
def grpN (d:List LNodeD):Nat:=(List.range' 0 d.length).foldl (fun s i=>grF d i s) 0
def layQ (d:List LNodeD):Bool:=inQ 1 300 d.length&&(!decide (12<(grpN d:Int))&&(allF (implQ (kdA d) (nqA d)) 0 d.length&&decide ((ups (kdA d) d.length).length=d.length-1)))
theorem get_tot {d:List LNodeD} {i:Nat} (h:i<d.length):szLNode (d.getD i nD)≤totLNode d:=by
 have:d.getD i nD=d[i]:=by simp [List.getD,h]
 rw [this];exact totLNode_mem (List.getElem_mem h)
theorem tot_take : ∀(d:List LNodeD) (i:Nat),i<d.length→totLNode (d.take (i+1))=totLNode (d.take i)+szLNode (d.getD i nD)
 | [],i,h=>by simp at h
 | x::d,0,_=>by simp [totLNode]
 | x::d,i+1,h=>by
   have:=tot_take d i (by simpa using h)
   simp only [List.take_succ_cons,totLNode,this,List.getD_cons_succ]
   omega
theorem tot_take_le : ∀(d:List LNodeD) (i:Nat),totLNode (d.take i)≤totLNode d
 | [],i=>by simp
 | x::d,0=>by simp [totLNode]
 | x::d,i+1=>by
   have:=tot_take_le d i
   simp only [List.take_succ_cons,totLNode]
   omega
theorem ups_tot (d:List LNodeD) : ∀i,i≤d.length→(ups (kdA d) i).length≤totLNode (d.take i)
 | 0,_=>by simp [ups]
 | i+1,h=>by
   have:=ups_tot d i (by omega)
   rw [tot_take d i (by omega),ups,List.length_append]
   have:(kdA d i).length≤szLNode (d.getD i nD):=by unfold kdA szLNode;omega
   omega
theorem ups_len (d:List LNodeD) {i:Nat} (h:i≤d.length):(ups (kdA d) i).length≤totLNode d:=Nat.le_trans (ups_tot d i h) (tot_take_le d i)
theorem grF_le (d:List LNodeD) (i n:Nat) (h:n≤i):grF d i n≤i+1:=by
 unfold grF;cases decide ((d.getD i nD).1=6) <;> simp <;> omega
theorem gr_spec (d:List LNodeD) (hd:d.length≤300):Fs_l14Groups (d.map avLNode)=some (grpN d:Int):=by
 refine us_l14Groups _ ?_
 have e:=loop_run (fun i (n:Nat)=>Ls_l14Groups_0 (d.map avLNode) (n:Int) (i:Int)) d.length (grF d) (fun n=>(n:Int)) (fun i n=>n≤i) (fun n h=>by
  refine ls_l14Groups_0 _ _ _ ?_
  simp only [List.length_map,lt_self,cond_false]) (fun i hi n hn y hy=>by
  refine ls_l14Groups_0 _ _ _ ?_
  rw [←hy]
  simp only [List.length_map,lt_true hi,d0_true,Bool.and_self,cond_true,Int.toNat_natCast,getD_map' avLNode nD hi,p0_LNode,c0_LNode,wrap_i (show i<9000000000000000000 by omega),wrap_i (show n<9000000000000000000 by omega),grF]
  cases decide ((d.getD i nD).1=6) <;> rfl) (fun i hi n hn=>grF_le d i n hn) d.length 0 (by omega) 0 (Nat.le_refl 0)
 simp only [Int.natCast_zero] at e
 rw [e];rfl
theorem gr_impl (d:List LNodeD) (hd:d.length≤300):Fi_groups (d.map avLNode)=some (grpN d:Int):=by
 refine ui_groups _ ?_
 have e:=loop_run (fun i (n:Nat)=>Li_groups_0 (n:Int) (d.map avLNode) (d.length:Int) (i:Int)) d.length (grF d) (fun n=>(n:Int)) (fun i n=>n≤i) (fun n h=>by
  refine li_groups_0 _ _ _ _ ?_
  simp only [lt_self,cond_false]) (fun i hi n hn y hy=>by
  refine li_groups_0 _ _ _ _ ?_
  rw [←hy]
  simp only [List.length_map,lt_true hi,d0_true,Bool.and_self,cond_true,Int.toNat_natCast,getD_map' avLNode nD hi,sh_LNode,c0_LNode,wrap_i (show i<9000000000000000000 by omega),wrap_i (show n<9000000000000000000 by omega),grF]
  cases decide ((d.getD i nD).1=6) <;> rfl) (fun i hi n hn=>grF_le d i n hn) d.length 0 (by omega) 0 (Nat.le_refl 0)
 simp only [Int.natCast_zero] at e
 simp only [List.length_map,e];rfl
def cntA (m:Nat) (l:List Int):List AVal:=(List.range m).map fun j:Nat=>iv (cntI (j:Int) l:Nat)
theorem cntA_len (m:Nat) (l:List Int):(cntA m l).length=m:=by simp [cntA]
theorem cntA_get {m k:Nat} (l:List Int) (h:k<m):(cntA m l).getD k .und=iv (cntI (k:Int) l:Nat):=by
 simp [cntA,List.getD,h]
theorem cntA_set {m k:Nat} (l:List Int):(cntA m l).set k (.int .i64 ((cntI (k:Int) l+1:Nat):Int))=cntA m (l++[(k:Int)]):=by
 refine List.ext_getElem (by simp [cntA]) fun j h1 h2 => ?_
 simp only [cntA,List.getElem_set,List.getElem_map,List.getElem_range,cntI_app,cntI]
 by_cases g:k=j
 · subst g;simp [iv]
 · have : ¬(k:Int)=(j:Int):=by omega
   simp [g,this]
theorem cntA_zero (m:Nat):List.replicate m (.int .i64 0:AVal)=cntA m []:=by
 refine List.ext_getElem (by simp [cntA]) fun j h1 h2 => ?_
 simp [cntA,cntI,iv]
theorem take_snoc {ks:List Int} {j:Nat} (h:j<ks.length):ks.take (j+1)=ks.take j++[ks.getD j 0]:=by
 rw [List.take_succ_eq_append_getElem h];simp [List.getD,h]
theorem drop_cons {ks:List Int} {j:Nat} (h:j<ks.length):ks.drop j=ks.getD j 0::ks.drop (j+1):=by
 rw [List.drop_eq_getElem_cons h];simp [List.getD,h]
theorem sk (d:List LNodeD) (i:Nat) (hi:i<d.length) (hd:d.length≤300) (kk:Int) (ss:ByteArray) (nn:Int) (ks base:List Int) (hb:(base++ks).length≤1048576) :
 ∀n j:Nat,j+n=ks.length→Ls_LayoutOK_1 (d.map avLNode) (i:Int) (ks.length:Int) (j:Int) (cntA d.length (base++ks.take j)) kk ss nn (ks.map iv)=some (bif rngQ ((i:Int)-1) (ks.drop j) then .inr (d.map avLNode,(i:Int),cntA d.length (base++ks)) else .inl false)
 | 0,j,h=>by
   obtain rfl:j=ks.length:=by omega
   refine ls_LayoutOK_1 _ _ _ _ _ _ _ _ _ ?_
   simp [rngQ]
 | n+1,j,h=>by
   have hj:j<ks.length:=by omega
   rw [List.length_append] at hb
   have ih:=sk d i hi hd kk ss nn ks base (by simpa using hb) n (j+1) (by omega)
   have w1:IntKind.wrap .i64 ((i:Int)-1)=(i:Int)-1:=wrap64 (by omega) (by omega)
   rw [drop_cons hj]
   rw [take_snoc hj,←List.append_assoc] at ih
   refine ls_LayoutOK_1 _ _ _ _ _ _ _ _ _ ?_
   simp only [List.length_map,lt_true hj,d0_true,Bool.and_self,cond_true,Int.toNat_natCast,getD_map' iv 0 hj,e_int,e_toInt,s61,w1,Option.bind_some,rngQ,List.all_cons]
   generalize hx:ks.getD j 0=x at ih
   by_cases g:0≤x∧x≤(i:Int)-1
   · obtain ⟨g1,g2⟩:=g
     obtain ⟨k,rfl⟩:=Int.eq_ofNat_of_zero_le g1
     have hk:k<d.length:=by omega
     have w2:IntKind.wrap .i64 (((cntI (k:Int) (base++ks.take j):Nat):Int)+1)=((cntI (k:Int) (base++ks.take j)+1:Nat):Int):=by
      have:=cntI_le (k:Int) (base++ks.take j)
      rw [List.length_append,List.length_take] at this
      exact wrap_i (by omega)
     have ag : ∀z,aggQ (iv z)=false:=fun _=>rfl
     simp only [g1,g2,decide_true,Bool.and_self,Bool.not_true,cond_false,cntA_len,lt_true hk,cond_true,Int.toNat_natCast,blt_true hk,cntA_get _ hk,e_int,e_toInt,ag,Bool.not_false,w2,bnd_eq,cntA_set,wrap_i (show j<9000000000000000000 by omega),ih,Bool.true_and,rngQ]
   · have:(decide (0≤x)&&decide (x≤(i:Int)-1))=false:=by
      rw [Bool.eq_false_iff];simp only [ne_eq,Bool.and_eq_true,decide_eq_true_eq];exact g
     simp only [this,Bool.not_false,cond_true,Bool.false_and,cond_false]
theorem ik (i:Nat) (hi:i≤300) (ks:List Int) (hb:ks.length≤1048576) :
 ∀(n j:Nat) (s:List Int),j+n=ks.length → ∃m,Li_layoutNode_0 (i:Int) (ks.map iv) (ks.length:Int) (j:Int) (dI (ones s))=some (bif seqQ ((i:Int)-1) s (ks.drop j) then .inr (dI (ones (s++ks.drop j))) else .inl (false,m))
 | 0,j,s,h=>by
   obtain rfl:j=ks.length:=by omega
   refine ⟨[],li_layoutNode_0 _ _ _ _ _ ?_⟩
   simp [seqQ]
 | n+1,j,s,h=>by
   have hj:j<ks.length:=by omega
   obtain ⟨m,ih⟩:=ik i hi ks hb n (j+1) (s++[ks.getD j 0]) (by omega)
   rw [drop_cons hj]
   have hs:IntKind.wrap .i64 ((j:Int)+1)=((j+1:Nat):Int):=wrap_i (by omega)
   rw [List.append_assoc,List.cons_append,List.nil_append,ones_snoc,dI_snoc] at ih
   generalize hx:ks.getD j 0=x at ih
   have hx':(ks.map iv).getD j .und=iv x:=by rw [getD_map' iv 0 hj,hx]
   have hg:mpGet (kcode (.int .i64 x)) (dI (ones s))=(dlast (ones s) x).map iv:=dI_get _ _
   have hl:=dlast_ones s x
   by_cases g1:x<0
   · refine ⟨dI (ones s),li_layoutNode_0 _ _ _ _ _ ?_⟩
     have : ¬0≤x:=by omega
     simp only [List.length_map,lt_true hj,d0_true,Bool.and_self,cond_true,Int.toNat_natCast,hx',e_int,e_toInt,g1,decide_true,seqQ,this,decide_false,Bool.false_and,cond_false]
   by_cases g2:(i:Int)≤x
   · refine ⟨dI (ones s),li_layoutNode_0 _ _ _ _ _ ?_⟩
     have : ¬x≤(i:Int)-1:=by omega
     simp only [List.length_map,lt_true hj,d0_true,Bool.and_self,cond_true,Int.toNat_natCast,hx',e_int,e_toInt,g1,g2,decide_true,seqQ,this,decide_false,Bool.and_false,Bool.false_and,cond_false]
   have g3:0≤x:=by omega
   have g4:x≤(i:Int)-1:=by omega
   cases q:s.any (fun y=>decide (x=y)) with
   | true=>
     rw [q] at hl
     refine ⟨dI (ones s),li_layoutNode_0 _ _ _ _ _ ?_⟩
     simp only [List.length_map,lt_true hj,d0_true,Bool.and_self,cond_true,Int.toNat_natCast,hx',e_int,e_toInt,g1,g2,decide_true,decide_false,cond_false,seqQ,g3,g4,q,Bool.not_true,Bool.false_and,Bool.and_false,hg,hl,oiv_getD,Option.getD_some]
     rfl
   | false=>
     rw [q] at hl
     refine ⟨m,li_layoutNode_0 _ _ _ _ _ ?_⟩
     have e:mpIns (.int .i64 x) (.int .i64 1) (dI (ones s))=mpIns (iv x) (iv 1) (dI (ones s)):=rfl
     simp only [List.length_map,lt_true hj,d0_true,Bool.and_self,cond_true,Int.toNat_natCast,hx',e_int,e_toInt,g1,g2,decide_true,decide_false,cond_false,seqQ,g3,g4,q,Bool.not_false,Bool.true_and,hg,hl,oiv_getD,Option.getD_none,hs,e,ih,Int.lt_irrefl]
end Go.Proofs.Ytnbpmjfemeeecaa
