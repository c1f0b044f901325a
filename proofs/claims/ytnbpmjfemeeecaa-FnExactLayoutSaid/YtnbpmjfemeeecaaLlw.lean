/- The law Layout answers true at all plain arguments; no condition. -/
import Derived.Test.YtnbpmjfemeeecaaLcw
namespace Go.Proofs.Ytnbpmjfemeeecaa
open Go.VK AVal
def btv (c k:Int):Bool:=decide (IntKind.wrap .i64 ((BitVec.ofInt 64 (Int.fdiv c (2 ^ (min k.toNat 64))) &&& BitVec.ofInt 64 1).toNat:Int)=1)
def bitL (n:Nat) (c:Int):List Bool:=(List.range n).map fun j=>btv c ((n-1-j:Nat):Int)
theorem bitL_len (n:Nat) (c:Int):(bitL n c).length=n:=by simp [bitL]
theorem bits_s (D:List AVal) (W n:Int) (t:ByteArray) (o f c:Int) (N:Nat) (hN:N≤1000) : ∀m,m≤N →
 Ls_Layout_1 D W n t o f c ((m:Int)-1) (((List.range (N-m)).map fun j=>btv c ((N-1-j:Nat):Int)).map bv)=some (D,W,n,t,o,f,c,(bitL N c).map bv)
 | 0,_=>by
   refine ls_Layout_1 _ _ _ _ _ _ _ _ _ ?_
   have e:decide ((0:Int)≤((0:Nat):Int)-1)=false:=rfl
   simp only [e,cond_false]
   rfl
 | m+1,h=>by
   have e1:((m+1:Nat):Int)-1=(m:Int):=by omega
   have w:IntKind.wrap .i64 ((m:Int)-1)=(m:Int)-1:=wrap64 (by omega) (by omega)
   have cc:capB (N-(m+1)+1) 1=true:=capB_le (by omega)
   have ih:=bits_s D W n t o f c N hN m (by omega)
   have e2:N-m=N-(m+1)+1:=by omega
   have e3:N-1-(N-(m+1))=m:=by omega
   have e4 : ∀x:Bool,AVal.bool x=bv x:=fun _=>rfl
   rw [e2,List.range_succ,List.map_append,List.map_append] at ih
   simp only [List.map_cons,List.map_nil,e3] at ih
   rw [e1]
   refine ls_Layout_1 _ _ _ _ _ _ _ _ _ ?_
   simp only [d0_true,cond_true,List.length_map,List.length_range,cc,w,e4]
   exact ih
theorem bits_i (D:List AVal) (n o f c W:Int) (N:Nat) (hn:n=(N:Int)) (hN:N≤1000) : ∀m i,i+m=N →
 Li_Layout_1 D n o f c (N:Int) (i:Int) W (filled bv (bv false) (bitL N c) i)=some (.inl (D,n,o,f,c,W,(bitL N c).map bv))
 | 0,i,h=>by
   have:i=N:=by omega
   subst this
   refine li_Layout_1 _ _ _ _ _ _ _ _ _ ?_
   have e:=filled_all bv (bv false) (bitL i c)
   rw [bitL_len] at e
   simp only [lt_self,cond_false,e]
 | m+1,i,h=>by
   have hi:i<N:=by omega
   have hl:=bitL_len N c
   have w1:IntKind.wrap .i64 ((i:Int)+1)=((i+1:Nat):Int):=wrap_i (by omega)
   have w2:IntKind.wrap .i64 (n-1)=((N-1:Nat):Int):=by rw [wrap64 (by omega) (by omega)];omega
   have w3:IntKind.wrap .i64 (((N-1:Nat):Int)-(i:Int))=((N-1-i:Nat):Int):=by rw [wrap64 (by omega) (by omega)];omega
   have hi2:i<(bitL N c).length:=by omega
   have fl:=filled_len bv (bv false) (Nat.le_of_lt hi2)
   have fg:=filled_get bv (bv false) hi2
   have fs:=filled_set bv (bv false) hi2
   have e5:(bitL N c)[i]=btv c ((N-1-i:Nat):Int):=by simp [bitL]
   have ag:aggQ (bv false)=false:=rfl
   have e4 : ∀x:Bool,AVal.bool x=bv x:=fun _=>rfl
   have bl:Nat.blt i N=true:=by rw [Nat.blt_eq];exact hi
   have ih:=bits_i D n o f c W N hn hN m (i+1) (by omega)
   rw [hl] at fl
   rw [e5] at fs
   unfold btv at fs
   refine li_Layout_1 _ _ _ _ _ _ _ _ _ ?_
   simp only [lt_true hi,cond_true,w1,w2,w3,d0_true,fl,Bool.and_self,Int.toNat_natCast,bl,fg,ag,Bool.not_false,e4] at fs ⊢
   rw [fs]
   exact ih
theorem bits_j (D:List AVal) (n o f c W:Int) (Q:List AVal) (N:Nat) (hn:n=(N:Int)) (hN:N≤1000) : ∀m i,i+m=N →
 Li_Layout_1s1 D n o f c (N:Int) (i:Int) W Q (filled bv (bv false) (bitL N c) i)=some (.inr (D,n,o,f,c,W,Q,(bitL N c).map bv))
 | 0,i,h=>by
   have:i=N:=by omega
   subst this
   refine li_Layout_1s1 _ _ _ _ _ _ _ _ _ _ ?_
   have e:=filled_all bv (bv false) (bitL i c)
   rw [bitL_len] at e
   simp only [lt_self,cond_false,e]
 | m+1,i,h=>by
   have hi:i<N:=by omega
   have hl:=bitL_len N c
   have w1:IntKind.wrap .i64 ((i:Int)+1)=((i+1:Nat):Int):=wrap_i (by omega)
   have w2:IntKind.wrap .i64 (n-1)=((N-1:Nat):Int):=by rw [wrap64 (by omega) (by omega)];omega
   have w3:IntKind.wrap .i64 (((N-1:Nat):Int)-(i:Int))=((N-1-i:Nat):Int):=by rw [wrap64 (by omega) (by omega)];omega
   have hi2:i<(bitL N c).length:=by omega
   have fl:=filled_len bv (bv false) (Nat.le_of_lt hi2)
   have fg:=filled_get bv (bv false) hi2
   have fs:=filled_set bv (bv false) hi2
   have e5:(bitL N c)[i]=btv c ((N-1-i:Nat):Int):=by simp [bitL]
   have ag:aggQ (bv false)=false:=rfl
   have e4 : ∀x:Bool,AVal.bool x=bv x:=fun _=>rfl
   have bl:Nat.blt i N=true:=by rw [Nat.blt_eq];exact hi
   have ih:=bits_j D n o f c W Q N hn hN m (i+1) (by omega)
   rw [hl] at fl
   rw [e5] at fs
   unfold btv at fs
   refine li_Layout_1s1 _ _ _ _ _ _ _ _ _ _ ?_
   simp only [lt_true hi,cond_true,w1,w2,w3,d0_true,fl,Bool.and_self,Int.toNat_natCast,bl,fg,ag,Bool.not_false,e4] at fs ⊢
   rw [fs]
   exact ih
theorem choice {d:List LNodeD} {B:List Bool} (hq:layQ d=true) (hB:B.length=grpN d) (ht:totLNode d≤1048576) {W:Nat} (hW:W≤1000) : ∃(t:ByteArray) (c v f:Nat),CI W t c v f∧t.size≤4000000∧Fs_l14Text (d.map avLNode) (B.map bv)=some t∧Fi_setText (d.map avLNode) (B.map bv)=some t ∧
 Fi_setter_col ((d.length-1:Nat):Int) 0 false (d.map avLNode) (nums d d.length) (B.map bv) 0 0 (W:Int) 0=some (d.map avLNode,nums d d.length,B.map bv,(c:Int),(v:Int),(W:Int),(f:Int)):=by
 obtain ⟨h,hm⟩:=right_of hq hB ht
 have n1:=h.n1
 have n3:=h.n300
 have hml:=hm (d.length-1) (by omega)
 have hz:ByteArray.empty.size=0:=rfl
 have h0:CI W ByteArray.empty 0 0 0:=by
  have e:(0:Nat)+(0-W)=0:=by omega
  unfold CI;rw [e];rfl
 obtain ⟨o',c,v,f,r0,r1,r2,r3⟩:=nodeC hW h d.length (d.length-1) (by omega) (by omega) 0 false ByteArray.empty 0 0 0 h0 (by omega) (by rw [hz];omega)
 obtain ⟨t,t1,t2⟩:=text2 hq hB ht
 have w1:IntKind.wrap .i64 ((d.length:Int)-1)=((d.length-1:Nat):Int):=by rw [wrap64 (by omega) (by omega)];omega
 have e0:ofBytes ByteArray.empty=[]:=rfl
 rw [e0] at r2
 simp only [Int.natCast_zero] at r2 r3
 have t3:Fs_l14Text (d.map avLNode) (B.map bv)=some o':=us_l14Text _ _ (by simp only [List.length_map,w1,r2,Option.bind_some,ofBytes_int,cond_true,ofBytes_back])
 rw [t1] at t3
 obtain rfl:=Option.some.inj t3
 exact ⟨t,c,v,f,r0,by rw [hz] at r1;omega,t1,t2,r3⟩
section
variable {d:List LNodeD} {W N:Nat}
theorem pow_w (hN:N≤12):IntKind.wrap .i64 (1*2 ^ min N 64)=((2 ^ N:Nat):Int):=by
 have h:(2:Nat) ^ N≤2 ^ 12:=Nat.pow_le_pow_right (by omega) hN
 have h2:(2:Nat) ^ 12=4096:=rfl
 rw [Nat.min_eq_left (by omega),Int.one_mul]
 have e:((2:Int) ^ N)=((2 ^ N:Nat):Int):=by simp
 rw [e]
 generalize 2 ^ N=z at h ⊢
 rw [h2] at h
 exact wrap64 (by omega) (by omega)
theorem rounds (hq:layQ d=true) (hN:N=grpN d) (hN12:N≤12) (ht:totLNode d≤1048576) (hW:W≤1000) : ∀(m c:Nat),c+m=2 ^ N→1≤c → ∀(t:ByteArray) (B:List Bool) (v f:Nat),B.length=N→Fi_setText (d.map avLNode) (B.map bv)=some t →
 ∃(t':ByteArray) (B':List Bool) (v':Nat),Fi_setText (d.map avLNode) (B'.map bv)=some t'∧Ls_Layout_0 (d.map avLNode) (W:Int) (N:Int) t (v:Int) (f:Int) (c:Int)=some (t',(v':Int)) ∧
  Li_Layout_0s1 (d.map avLNode) (N:Int) (v:Int) (f:Int) (c:Int) (W:Int) (B.map bv)=some (.inr (d.map avLNode,(v':Int),B'.map bv))
 | 0,c,h,h1,t,B,v,f,hB,hT=>by
   have e:c=2 ^ N:=by omega
   refine ⟨t,B,v,hT,ls_Layout_0 _ _ _ _ _ _ _ ?_,li_Layout_0s1 _ _ _ _ _ _ _ ?_⟩
   · simp only [d0_true,cond_true,Int.toNat_natCast,pow_w hN12,e,lt_self,cond_false]
   · simp only [d0_true,cond_true,Int.toNat_natCast,pow_w hN12,e,lt_self,cond_false]
 | m+1,c,h,h1,t,B,v,f,hB,hT=>by
   have hc:c<2 ^ N:=by omega
   have hp:(2:Nat) ^ N≤2 ^ 12:=Nat.pow_le_pow_right (by omega) hN12
   have h2:(2:Nat) ^ 12=4096:=rfl
   have hN0:N≠0:=by rintro rfl;simp at hc;omega
   have hne:(B.map bv).isEmpty=false:=by
    cases B with
    | nil=>simp at hB;omega
    | cons _ _=>rfl
   obtain ⟨tn,cn,vn,fn,k1,k2,k3,k4,k5⟩:=choice (B:=bitL N (c:Int)) hq (by rw [bitL_len];exact hN) ht hW
   have hd:1≤d.length∧d.length≤300:=by
    simp only [layQ,Bool.and_eq_true,inQ,decide_eq_true_eq] at hq
    omega
   have hle:=k1.le
   have w1:IntKind.wrap .i64 ((d.length:Int)-1)=((d.length-1:Nat):Int):=by rw [wrap64 (by omega) (by omega)];omega
   have w2:IntKind.wrap .i64 ((c:Int)+1)=((c+1:Nat):Int):=wrap_i (by omega)
   have w3:IntKind.wrap .i64 ((vn:Int)+((cn-W:Nat):Int))=((vn+(cn-W):Nat):Int):=by rw [wrap64 (by omega) (by omega)];omega
   have w4:IntKind.wrap .i64 ((N:Int)-1)=(N:Int)-1:=wrap64 (by omega) (by omega)
   have b1:=bits_s (d.map avLNode) (W:Int) (N:Int) t (v:Int) (f:Int) (c:Int) N (by omega) N (Nat.le_refl _)
   rw [Nat.sub_self] at b1
   simp only [List.range_zero,List.map_nil] at b1
   have b2:=bits_j (d.map avLNode) (N:Int) (v:Int) (f:Int) (c:Int) (W:Int) (B.map bv) N rfl (by omega) N 0 (by omega)
   rw [filled_zero,bitL_len] at b2
   simp only [Int.natCast_zero] at b2
   have rb : ∀B:List Bool,asRoL (B.map bv)=B.map bv:=fun B=>asRoL_map asRo_bv B
   have cc:capB N 1=true:=capB_le (by omega)
   have le:decide ((N:Int)≤(N:Int))=true:=by simp
   have e4:AVal.bool false=bv false:=rfl
   have cs:=cost_s k1 (by omega) hW
   have neg:decide ((v:Int)<0)=false:=decide_eq_false (by omega)
   have ow:=over_w (c:=cn) (W:=W) (by omega) hW
   have take : ∃(t':ByteArray) (B':List Bool) (v':Nat),Fi_setText (d.map avLNode) (B'.map bv)=some t'∧Ls_Layout_0 (d.map avLNode) (W:Int) (N:Int) tn ((vn+(cn-W):Nat):Int) (fn:Int) ((c+1:Nat):Int)=some (t',(v':Int)) ∧
    Li_Layout_0s1 (d.map avLNode) (N:Int) ((vn+(cn-W):Nat):Int) (fn:Int) ((c+1:Nat):Int) (W:Int) ((bitL N (c:Int)).map bv)=some (.inr (d.map avLNode,(v':Int),B'.map bv)):=rounds hq hN hN12 ht hW m (c+1) (by omega) (by omega) tn (bitL N (c:Int)) (vn+(cn-W)) fn (bitL_len _ _) k4
   have skip:=rounds hq hN hN12 ht hW m (c+1) (by omega) (by omega) t B v f hB hT
   by_cases q1:((vn+(cn-W):Nat):Int)<(v:Int)
   · obtain ⟨t',B',v',z1,z2,z3⟩:=take
     refine ⟨t',B',v',z1,ls_Layout_0 _ _ _ _ _ _ _ ?_,li_Layout_0s1 _ _ _ _ _ _ _ ?_⟩
     · simp only [d0_true,cond_true,Int.toNat_natCast,pow_w hN12,lt_true hc,w4,b1,Option.bind_some,rb,k3,cs,neg,cond_false,q1,decide_true,w2,z2]
     · simp only [d0_true,cond_true,Int.toNat_natCast,pow_w hN12,lt_true hc,le,cc,Bool.and_self,List.length_replicate,e4,b2,Option.bind_some,Sum.elim_inr,rb,setter d hd.2,List.length_map,w1,k5,hne,Bool.not_false,ow,w3,q1,decide_true,w2,z3]
   · by_cases q2:((vn+(cn-W):Nat):Int)=(v:Int)
     · by_cases q3:(fn:Int)<(f:Int)
       · obtain ⟨t',B',v',z1,z2,z3⟩:=take
         refine ⟨t',B',v',z1,ls_Layout_0 _ _ _ _ _ _ _ ?_,li_Layout_0s1 _ _ _ _ _ _ _ ?_⟩
         · simp only [d0_true,cond_true,Int.toNat_natCast,pow_w hN12,lt_true hc,w4,b1,Option.bind_some,rb,k3,cs,neg,cond_false,q1,q3,decide_true,decide_false,w2,z2]
           rw [decide_eq_true q2,cond_true]
         · simp only [d0_true,cond_true,cond_false,Int.toNat_natCast,pow_w hN12,lt_true hc,le,cc,Bool.and_self,List.length_replicate,e4,b2,Option.bind_some,Sum.elim_inr,rb,setter d hd.2,List.length_map,w1,k5,hne,Bool.not_false,ow,w3,q1,q3,decide_true,decide_false,w2,z3]
           rw [decide_eq_true q2,cond_true]
       · obtain ⟨t',B',v',z1,z2,z3⟩:=skip
         refine ⟨t',B',v',z1,ls_Layout_0 _ _ _ _ _ _ _ ?_,li_Layout_0s1 _ _ _ _ _ _ _ ?_⟩
         · simp only [d0_true,cond_true,Int.toNat_natCast,pow_w hN12,lt_true hc,w4,b1,Option.bind_some,rb,k3,cs,neg,cond_false,q1,q3,decide_false,w2,z2]
           rw [decide_eq_true q2,cond_true]
         · simp only [d0_true,cond_true,cond_false,Int.toNat_natCast,pow_w hN12,lt_true hc,le,cc,Bool.and_self,List.length_replicate,e4,b2,Option.bind_some,Sum.elim_inr,rb,setter d hd.2,List.length_map,w1,k5,hne,Bool.not_false,ow,w3,q1,q3,decide_false,w2,z3]
           rw [decide_eq_true q2,cond_true]
     · obtain ⟨t',B',v',z1,z2,z3⟩:=skip
       refine ⟨t',B',v',z1,ls_Layout_0 _ _ _ _ _ _ _ ?_,li_Layout_0s1 _ _ _ _ _ _ _ ?_⟩
       · simp only [d0_true,cond_true,Int.toNat_natCast,pow_w hN12,lt_true hc,w4,b1,Option.bind_some,rb,k3,cs,neg,cond_false,q1,q2,decide_false,w2,z2]
       · simp only [d0_true,cond_true,cond_false,Int.toNat_natCast,pow_w hN12,lt_true hc,le,cc,Bool.and_self,List.length_replicate,e4,b2,Option.bind_some,Sum.elim_inr,rb,setter d hd.2,List.length_map,w1,k5,hne,Bool.not_false,ow,w3,q1,q2,decide_false,w2,z3]
theorem all_rounds (hq:layQ d=true) (hN:N=grpN d) (hN12:N≤12) (ht:totLNode d≤1048576) (hW:W≤1000) :
 ∃(t':ByteArray) (B':List Bool) (v':Nat),Fi_setText (d.map avLNode) (B'.map bv)=some t'∧Ls_Layout_0 (d.map avLNode) (W:Int) (N:Int) (ByteArray.mk #[]) (-1) 0 0=some (t',(v':Int)) ∧
  Li_Layout_0 (d.map avLNode) (N:Int) 0 0 0 (W:Int)=some (.inr (d.map avLNode,(v':Int),B'.map bv)):=by
 have hc:0<2 ^ N:=Nat.pow_pos (by omega)
 obtain ⟨tn,cn,vn,fn,k1,k2,k3,k4,k5⟩:=choice (B:=bitL N ((0:Nat):Int)) hq (by rw [bitL_len];exact hN) ht hW
 have hd:1≤d.length∧d.length≤300:=by
  simp only [layQ,Bool.and_eq_true,inQ,decide_eq_true_eq] at hq
  omega
 have hle:=k1.le
 have w1:IntKind.wrap .i64 ((d.length:Int)-1)=((d.length-1:Nat):Int):=by rw [wrap64 (by omega) (by omega)];omega
 have w2:IntKind.wrap .i64 (0+1)=((0+1:Nat):Int):=rfl
 have w3:IntKind.wrap .i64 ((vn:Int)+((cn-W:Nat):Int))=((vn+(cn-W):Nat):Int):=by rw [wrap64 (by omega) (by omega)];omega
 have w4:IntKind.wrap .i64 ((N:Int)-1)=(N:Int)-1:=wrap64 (by omega) (by omega)
 have b1:=bits_s (d.map avLNode) (W:Int) (N:Int) (ByteArray.mk #[]) (-1) 0 ((0:Nat):Int) N (by omega) N (Nat.le_refl _)
 rw [Nat.sub_self] at b1
 simp only [List.range_zero,List.map_nil,Int.natCast_zero] at b1
 have b2:=bits_i (d.map avLNode) (N:Int) 0 0 ((0:Nat):Int) (W:Int) N rfl (by omega) N 0 (by omega)
 rw [filled_zero,bitL_len] at b2
 simp only [Int.natCast_zero] at b2 k3 k4 k5
 have rb : ∀B:List Bool,asRoL (B.map bv)=B.map bv:=fun B=>asRoL_map asRo_bv B
 have cc:capB N 1=true:=capB_le (by omega)
 have le:decide ((N:Int)≤(N:Int))=true:=by simp
 have e4:AVal.bool false=bv false:=rfl
 have cs:=cost_s k1 (by omega) hW
 have ow:=over_w (c:=cn) (W:=W) (by omega) hW
 have l0:decide ((0:Int)<((2 ^ N:Nat):Int))=true:=decide_eq_true (by omega)
 have ng:decide ((-1:Int)<0)=true:=rfl
 obtain ⟨t',B',v',z1,z2,z3⟩:=rounds hq hN hN12 ht hW (2 ^ N-1) (0+1) (by omega) (by omega) tn (bitL N 0) (vn+(cn-W)) fn (bitL_len _ _) k4
 refine ⟨t',B',v',z1,ls_Layout_0 _ _ _ _ _ _ _ ?_,li_Layout_0 _ _ _ _ _ _ ?_⟩
 · simp only [d0_true,cond_true,Int.toNat_natCast,pow_w hN12,l0,w4,b1,Option.bind_some,rb,k3,cs,ng,w2,z2]
 · simp only [d0_true,cond_true,Int.toNat_natCast,pow_w hN12,l0,le,cc,Bool.and_self,List.length_replicate,e4,b2,Option.bind_some,Sum.elim_inl,rb,setter d hd.2,List.length_map,w1,k5,ow,w3,w2,z3]
end
theorem layout2 (d:List LNodeD) (W:Int) (ht:totLNode d≤1048576) : ∃t v c,Fs_Layout (d.map avLNode) W=some (t,v,c)∧Fi_Layout (d.map avLNode) W=some (t,v,c):=by
 by_cases hq:layQ d=true
 · have hd:d.length≤300∧grpN d≤12:=by
    simp only [layQ,Bool.and_eq_true,inQ,decide_eq_true_eq,Bool.not_eq_true',decide_eq_false_iff_not] at hq
    omega
   by_cases g1:W<0
   · have q:inQ 0 1000 W=false:=by rw [Bool.eq_false_iff];simp only [inQ,ne_eq,Bool.and_eq_true,decide_eq_true_eq];omega
     refine ⟨ByteArray.mk #[],0,1,us_Layout _ _ ?_,ui_Layout _ _ ?_⟩
     · simp only [ly_spec d ht,hq,Option.bind_some,Bool.not_true,cond_false,s61',q,Bool.not_false,cond_true]
     · simp only [ly_impl d ht,hq,Option.bind_some,Bool.not_true,cond_false,g1,decide_true,cond_true]
   by_cases g2:1000<W
   · have q:inQ 0 1000 W=false:=by rw [Bool.eq_false_iff];simp only [inQ,ne_eq,Bool.and_eq_true,decide_eq_true_eq];omega
     refine ⟨ByteArray.mk #[],0,1,us_Layout _ _ ?_,ui_Layout _ _ ?_⟩
     · simp only [ly_spec d ht,hq,Option.bind_some,Bool.not_true,cond_false,s61',q,Bool.not_false,cond_true]
     · simp only [ly_impl d ht,hq,Option.bind_some,Bool.not_true,cond_false,g1,g2,decide_true,decide_false,cond_true]
   obtain ⟨w,rfl⟩ : ∃w:Nat,W=w:=⟨W.toNat,by omega⟩
   have q:inQ 0 1000 (w:Int)=true:=by simp only [inQ,Bool.and_eq_true,decide_eq_true_eq];omega
   obtain ⟨t',B',v',z1,z2,z3⟩:=all_rounds (W:=w) hq rfl hd.2 ht (by omega)
   refine ⟨t',v',0,us_Layout _ _ ?_,ui_Layout _ _ ?_⟩
   · simp only [ly_spec d ht,hq,Option.bind_some,Bool.not_true,cond_false,s61',q,gr_spec d hd.1,z2]
   · simp only [ly_impl d ht,hq,Option.bind_some,Bool.not_true,cond_false,g1,g2,decide_false,gr_impl d hd.1,z3,Sum.elim_inr,z1]
 · refine ⟨ByteArray.mk #[],0,1,us_Layout _ _ ?_,ui_Layout _ _ ?_⟩
   · simp only [ly_spec d ht,Bool.eq_false_iff.2 hq,Option.bind_some,Bool.not_false,cond_true]
   · simp only [ly_impl d ht,Bool.eq_false_iff.2 hq,Option.bind_some,Bool.not_false,cond_true]
theorem lawLa (d:List LNodeD) (W:Int) (hl:d.length≤maxLen) (hw : ∀y∈d,wfLNode y):Fl_FnExactLayout (d.map avLNode) W=some true:=by
 refine ul_FnExactLayout _ _ ?_
 have e:=tzLNodeS d 1048576 ⟨hl,hw⟩ (by omega) (by omega)
 simp only [e,Option.bind_some]
 by_cases g:szR 1048576 (szLNodeS d)<0
 · simp only [g,decide_true,cond_true]
 have z:=szR_nn g
 have hs:szLNodeS d≤1048576:=by omega
 have ht:totLNode d≤1048576:=by unfold szLNodeS at hs;omega
 have a:asRoL (d.map aoLNode)=d.map avLNode:=asRoL_map2 asRo_LNode d
 obtain ⟨t,v,c,s1,s2⟩:=layout2 d W ht
 simp only [g,decide_false,cond_false,toLNodeS d hs,Option.bind_some,a,s1,s2,decide_true,Bool.not_true,eqLNodeS d hs]
theorem lawLayout : ∀xs,FitsL ctx [ty_S_laws_LNode,ty_int] xs → ∃k,vcall ctx k n_l_FnExactLayout xs []=some ([.bool true],[]):=by
 intro xs h
 obtain ⟨v0,r,rfl,g0,g⟩:=h.cons'
 obtain ⟨v1,r,rfl,g1,g⟩:=g.cons'
 obtain rfl:=g.nil'
 obtain ⟨x0,rfl,l0,q0⟩:=g0.slice' (sz:=4) (e:=ty_laws_LNode) (by kernel_rfl)
 obtain ⟨W,rfl,_⟩:=g1.int' (k:=.i64) (by kernel_rfl)
 obtain ⟨d,rfl,hw⟩:=fitLNodeS q0
 rw [List.length_map] at l0
 exact law_of (S:=sgl_FnExactLayout) (a:=(d.map avLNode,W)) (lawLa d W l0 hw) rfl rfl
end Go.Proofs.Ytnbpmjfemeeecaa
