/- What a layout's text costs: plain bytes, and the reference's reckoning. -/
import Derived.Test.YtnbpmjfemeeecaaLn
namespace Go.Proofs.Ytnbpmjfemeeecaa
open Go.VK AVal
def stp (W:Nat) (s:Nat×Nat×Nat) (b:UInt8):Nat×Nat×Nat:=if b=10 then (s.1,s.2.1+1,0) else (s.1+(if W<s.2.2+1 then 1 else 0),s.2.1,s.2.2+1)
def cst (W:Nat) (s:Nat×Nat×Nat) (l:List UInt8):Nat×Nat×Nat:=l.foldl (stp W) s
theorem cst_text (W v f:Nat) : ∀(l:List UInt8) (c:Nat),(∀b∈l,b≠10)→cst W (v+(c-W),f,c) l=(v+(c+l.length-W),f,c+l.length)
 | [],c,_=>rfl
 | b::l,c,h=>by
   have hb:b≠10:=h b (by simp)
   have e:stp W (v+(c-W),f,c) b=(v+(c+1-W),f,c+1):=by
    simp only [stp,if_neg hb,Prod.mk.injEq,and_true]
    split <;> omega
   have ih:=cst_text W v f l (c+1) fun x hx=>h x (by simp [hx])
   unfold cst at ih ⊢
   rw [List.foldl_cons,e,ih,List.length_cons]
   simp only [Prod.mk.injEq,true_and]
   omega
theorem cst_le (W:Nat) : ∀(l:List UInt8) (s:Nat×Nat×Nat),(cst W s l).1≤s.1+l.length∧(cst W s l).2.1≤s.2.1+l.length∧(cst W s l).2.2≤s.2.2+l.length
 | [],s=>by simp [cst]
 | b::l,s=>by
   have ih:=cst_le W l (stp W s b)
   have e:(stp W s b).1≤s.1+1∧(stp W s b).2.1≤s.2.1+1∧(stp W s b).2.2≤s.2.2+1:=by
    unfold stp
    split
    · simp only;omega
    · simp only;split <;> omega
   unfold cst at ih ⊢
   rw [List.foldl_cons,List.length_cons]
   omega
def CI (W:Nat) (o:ByteArray) (c v f:Nat):Prop:=cst W (0,0,0) o.data.toList=(v+(c-W),f,c)
theorem data_size (o:ByteArray):o.data.toList.length=o.size:=by rw [Array.length_toList];rfl
theorem CI.le {W:Nat} {o:ByteArray} {c v f:Nat} (h:CI W o c v f):v≤o.size∧f≤o.size∧c≤o.size:=by
 have:=cst_le W o.data.toList (0,0,0)
 rw [h,data_size] at this
 simp only at this
 omega
theorem CI.text {W:Nat} {o S:ByteArray} {c v f:Nat} (h:CI W o c v f) (hS : ∀b∈S.data.toList,b≠10):CI W (o++S) (c+S.size) v f:=by
 unfold CI at h ⊢
 rw [ByteArray.data_append,Array.toList_append]
 have e:=cst_text W v f S.data.toList c hS
 unfold cst at h e ⊢
 rw [List.foldl_append,h,e,data_size]
theorem repL_32 : ∀n,∀b∈repL [32] n,b≠10
 | 0,b,h=>by simp [repL] at h
 | n+1,b,h=>by
   simp only [repL,List.cons_append,List.nil_append,List.mem_cons] at h
   rcases h with rfl|h
   · decide
   · exact repL_32 n b h
theorem CI.line {W:Nat} {o:ByteArray} {c v f:Nat} (h:CI W o c v f) (x:Nat):CI W (o++fd x) x (v+(c-W)) (f+1):=by
 unfold CI at h ⊢
 have e:(fd x).data.toList=10::repL [32] x:=by
  unfold fd repB
  rw [ByteArray.data_append,Array.toList_append]
  rfl
 have hl:(repL [32] x).length=x:=by
  have:=repB_size sp x
  rw [sp_size,Nat.mul_one] at this
  have e2:=data_size (repB sp x)
  unfold repB at e2 this
  rw [this] at e2
  exact e2
 have e3:=cst_text W (v+(c-W)) (f+1) (repL [32] x) 0 (repL_32 x)
 rw [ByteArray.data_append,Array.toList_append,e]
 unfold cst at h e3 ⊢
 rw [List.foldl_append,h,List.foldl_cons]
 have e4:stp W (v+(c-W),f,c) 10=(v+(c-W)+(0-W),f+1,0):=by simp [stp]
 rw [e4,e3,hl]
 simp only [Nat.zero_add]
theorem no_nl {S:ByteArray} (h:nlQ S=false) : ∀b∈S.data.toList,b≠10:=by
 unfold nlQ at h
 rw [Bool.not_eq_false',allN_iff] at h
 intro b hb hb10
 obtain ⟨i,hi,rfl⟩:=List.mem_iff_getElem.1 hb
 rw [data_size] at hi
 have:=h i hi
 rw [Bool.not_eq_true',decide_eq_false_iff_not] at this
 refine this ?_
 unfold byteAt
 rw [dif_pos hi]
 have e:S[i]'hi=S.data.toList[i]'(by rw [data_size];exact hi):=by simp [ByteArray.getElem_eq_getElem_data]
 rw [e,hb10];rfl
theorem byte_get {t:ByteArray} {i:Nat} (hi:i<t.size) : ∃b:UInt8,t.data.toList.drop i=b::t.data.toList.drop (i+1)∧byteAt t i=(b.toNat:Int):=by
 have h2:i<t.data.toList.length:=by rw [data_size];exact hi
 refine ⟨t.data.toList[i],(List.drop_eq_getElem_cons h2),?_⟩
 unfold byteAt
 rw [dif_pos hi]
 simp [ByteArray.getElem_eq_getElem_data]
theorem cost_0 (W:Nat) (t:ByteArray) (ht:t.size≤9000000) (hW:W≤1000) : ∀m i,i+m=t.size → ∀s:Nat×Nat×Nat,s.1≤i→s.2.1≤i→s.2.2≤i →
 Ls_l14Cost_0 t (W:Int) (s.1:Int) (s.2.1:Int) (s.2.2:Int) (i:Int)=some ((((cst W s (t.data.toList.drop i)).1:Nat):Int),(((cst W s (t.data.toList.drop i)).2.1:Nat):Int))
 | 0,i,h,s,_,_,_=>by
   have:i=t.size:=by omega
   subst this
   refine ls_l14Cost_0 _ _ _ _ _ _ ?_
   have e:t.data.toList.drop t.size=[]:=List.drop_eq_nil_of_le (by rw [data_size];exact Nat.le_refl _)
   rw [e]
   simp only [lt_self,cond_false,cst,List.foldl_nil]
 | m+1,i,h,s,h1,h2,h3=>by
   have hi:i<t.size:=by omega
   obtain ⟨b,e1,e2⟩:=byte_get hi
   have w1:IntKind.wrap .i64 ((i:Int)+1)=((i+1:Nat):Int):=wrap_i (by omega)
   have w2:IntKind.wrap .i64 ((s.2.1:Int)+1)=((s.2.1+1:Nat):Int):=wrap_i (by omega)
   have w3:IntKind.wrap .i64 ((s.2.2:Int)+1)=((s.2.2+1:Nat):Int):=wrap_i (by omega)
   have w4:IntKind.wrap .i64 ((s.1:Int)+1)=((s.1+1:Nat):Int):=wrap_i (by omega)
   have ec : ∀s,cst W s (b::t.data.toList.drop (i+1))=cst W (stp W s b) (t.data.toList.drop (i+1)):=fun _=>rfl
   refine ls_l14Cost_0 _ _ _ _ _ _ ?_
   rw [e1,ec]
   simp only [lt_true hi,d0_true,Bool.and_self,cond_true,Int.toNat_natCast,e2,w1,w2,w3,w4]
   by_cases hb:b=10
   · subst hb
     have e3:stp W s 10=(s.1,s.2.1+1,0):=by simp [stp]
     have ih:=cost_0 W t ht hW m (i+1) (by omega) (s.1,s.2.1+1,0) (by simp only;omega) (by simp only;omega) (by simp only;omega)
     simp only [Int.natCast_zero] at ih
     have e10:decide ((((10:UInt8).toNat:Nat):Int)=10)=true:=rfl
     rw [e3,e10,cond_true]
     exact ih
   · have hb2 : ¬((b.toNat:Nat):Int)=10:=fun q=>hb (UInt8.toNat_inj.1 (by rw [show (10:UInt8).toNat=10 from rfl];omega))
     rw [decide_eq_false hb2,cond_false]
     by_cases hw:W<s.2.2+1
     · have e3:stp W s b=(s.1+1,s.2.1,s.2.2+1):=by simp only [stp,if_neg hb,if_pos hw]
       have hw2:(W:Int)<((s.2.2+1:Nat):Int):=by omega
       have ih:=cost_0 W t ht hW m (i+1) (by omega) (s.1+1,s.2.1,s.2.2+1) (by simp only;omega) (by simp only;omega) (by simp only;omega)
       rw [e3,decide_eq_true hw2,cond_true]
       exact ih
     · have e3:stp W s b=(s.1,s.2.1,s.2.2+1):=by simp only [stp,if_neg hb,if_neg hw,Nat.add_zero]
       have hw2 : ¬(W:Int)<((s.2.2+1:Nat):Int):=by omega
       have ih:=cost_0 W t ht hW m (i+1) (by omega) (s.1,s.2.1,s.2.2+1) (by simp only;omega) (by simp only;omega) (by simp only;omega)
       rw [e3,decide_eq_false hw2,cond_false]
       exact ih
theorem cost_s {W:Nat} {t:ByteArray} {c v f:Nat} (h:CI W t c v f) (ht:t.size≤9000000) (hW:W≤1000):Fs_l14Cost t (W:Int)=some (((v+(c-W):Nat):Int),(f:Int)):=by
 refine us_l14Cost _ _ ?_
 have e:=cost_0 W t ht hW t.size 0 (by omega) (0,0,0) (by simp) (by simp) (by simp)
 simp only [Int.natCast_zero,List.drop_zero] at e
 rw [e]
 unfold CI at h
 rw [h];rfl
end Go.Proofs.Ytnbpmjfemeeecaa
