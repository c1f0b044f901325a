/- A layout's columns: the program's reckoning of a text that the reference writes. -/
import Derived.Test.YtnbpmjfemeeecaaLco
namespace Go.Proofs.Ytnbpmjfemeeecaa
open Go.VK AVal
theorem col_text (S:ByteArray) (c:Nat) (h:c+S.size≤100000000):Fi_Layout_1 S (c:Int)=some ((c+S.size:Nat):Int):=by
 refine ui_Layout_1 _ _ ?_
 have w:IntKind.wrap .i64 ((c:Int)+((S.size:Nat):Int))=((c+S.size:Nat):Int):=by rw [wrap64 (by omega) (by omega)];omega
 rw [w]
theorem over_w {c W:Nat} (h:c≤100000000) (hW:W≤1000):(if (0:Int)>IntKind.wrap .i64 ((c:Int)-(W:Int)) then 0 else IntKind.wrap .i64 ((c:Int)-(W:Int)))=((c-W:Nat):Int):=by
 rw [wrap64 (by omega) (by omega)]
 split <;> omega
theorem col_line (x c v f W:Nat) (h:c≤100000000) (h2:v≤100000000) (h3:f≤100000000) (hW:W≤1000):Fi_Layout_2 (x:Int) (v:Int) (c:Int) (W:Int) (f:Int)=some (((v+(c-W):Nat):Int),(x:Int),(W:Int),((f+1:Nat):Int)):=by
 refine ui_Layout_2 _ _ _ _ _ ?_
 have w:IntKind.wrap .i64 ((f:Int)+1)=((f+1:Nat):Int):=wrap_i (by omega)
 have w2:IntKind.wrap .i64 ((v:Int)+((c-W:Nat):Int))=((v+(c-W):Nat):Int):=by rw [wrap64 (by omega) (by omega)];omega
 rw [over_w h hW,w,w2]
section
variable {d:List LNodeD} {B:List Bool} {ms:Nat→Nat} {W:Nat}
def NodeC (d:List LNodeD) (B:List Bool) (ms:Nat→Nat) (W:Nat) (i:Nat):Prop := ∀(x1:Nat) (b:Bool) (o:ByteArray) (c v f:Nat),CI W o c v f→x1+20*(i+1)≤6000→o.size+ms i*6300≤4000000 →
 ∃(o':ByteArray) (c' v' f':Nat),CI W o' c' v' f'∧o'.size≤o.size+ms i*6300∧Fs_l14Set_node (i:Int) (x1:Int) b (d.map avLNode) (B.map bv) (ofBytes o)=some (d.map avLNode,B.map bv,ofBytes o') ∧
  Fi_setter_col (i:Int) (x1:Int) b (d.map avLNode) (nums d d.length) (B.map bv) (c:Int) (v:Int) (W:Int) (f:Int)=some (d.map avLNode,nums d d.length,B.map bv,(c':Int),(v':Int),(W:Int),(f':Int))
set_option maxRecDepth 20000 in
theorem kidsC (hW:W≤1000) {i:Nat} (hP : ∀j,j<i→NodeC d B ms W j) (x1:Nat) (b:Bool) (hx:x1+20*i≤6000) (kk:Int) (ss:ByteArray) (nn:Int) : ∀(ks pre:List Int),(pre++ks).length≤1048576→(∀k∈ks,0≤k∧k<(i:Int)) → ∀(o:ByteArray) (c v f:Nat),CI W o c v f→o.size+(ks.map fun k=>ms k.toNat).sum*6300≤4000000 →
 ∃(o':ByteArray) (c' v' f':Nat),CI W o' c' v' f'∧o'.size≤o.size+(ks.map fun k=>ms k.toNat).sum*6300 ∧
  Ls_l14Set_node_0 (x1:Int) b (pre.length:Int) (d.map avLNode) (B.map bv) (ofBytes o) kk ss nn ((pre++ks).map iv)=some (d.map avLNode,B.map bv,ofBytes o') ∧
  Li_setter_col_0 (x1:Int) b ((pre++ks).map iv) ((pre++ks).length:Int) (pre.length:Int) (d.map avLNode) (nums d d.length) (B.map bv) (c:Int) (v:Int) (W:Int) (f:Int)=some (d.map avLNode,nums d d.length,B.map bv,(c':Int),(v':Int),(W:Int),(f':Int))
 | [],pre,hl,hk,o,c,v,f,hc,ho=>by
   refine ⟨o,c,v,f,hc,by omega,ls_l14Set_node_0 _ _ _ _ _ _ _ _ _ _ ?_,li_setter_col_0 _ _ _ _ _ _ _ _ _ _ _ _ ?_⟩
   · simp only [List.append_nil,List.length_map,lt_self,cond_false]
   · simp only [List.append_nil,lt_self,cond_false]
 | k::ks,pre,hl,hk,o,c,v,f,hc,ho=>by
   obtain ⟨k0,k1⟩:=hk k (by simp)
   obtain ⟨j,rfl⟩ : ∃j:Nat,k=j:=⟨k.toNat,by omega⟩
   simp only [List.map_cons,List.sum_cons,Int.toNat_natCast] at ho ⊢
   obtain ⟨o1,ca,va,fa,r0,r1,r2,r3⟩:=hP j (by omega) x1 b o c v f hc (by omega) (by omega)
   obtain ⟨o',cb,vb,fb,t0,t1,t2,t3⟩:=kidsC hW hP x1 b hx kk ss nn ks (pre++[(j:Int)]) (by simpa using hl) (fun q hq=>hk q (by simp [hq])) o1 ca va fa r0 (by omega)
   have el:(pre++[(j:Int)]).length=pre.length+1:=by simp
   simp only [List.append_assoc,List.cons_append,List.nil_append,el,List.map_append,List.map_cons] at t2 t3
   have hm:pre.length<(pre++(j:Int)::ks).length:=by simp
   have hml:pre.length<pre.length+(ks.length+1):=by omega
   have hl2:pre.length+(ks.length+1)≤1048576:=by simpa using hl
   have w1:IntKind.wrap .i64 ((pre.length:Int)+1)=((pre.length+1:Nat):Int):=wrap_i (by omega)
   have g:(pre.map iv++iv (j:Int)::ks.map iv).getD pre.length .und=iv (j:Int):=by
    have:=map_mid iv pre ks (j:Int)
    simpa only [List.map_append,List.map_cons] using this
   have ll:(pre.map iv++iv (j:Int)::ks.map iv).length=pre.length+(ks.length+1):=by simp
   have ll2:(pre++(j:Int)::ks).length=pre.length+(ks.length+1):=by simp
   refine ⟨o',cb,vb,fb,t0,by omega,ls_l14Set_node_0 _ _ _ _ _ _ _ _ _ _ ?_,li_setter_col_0 _ _ _ _ _ _ _ _ _ _ _ _ ?_⟩
   · simp only [List.map_append,List.map_cons,ll,lt_true hml,d0_true,Bool.and_self,cond_true,Int.toNat_natCast,g,e_int,e_toInt,r2,Option.bind_some,w1,t2]
   · rw [ll2] at t3 ⊢
     simp only [List.map_append,List.map_cons,ll,lt_true hml,d0_true,Bool.and_self,cond_true,Int.toNat_natCast,g,e_int,e_toInt,r3,Option.bind_some,w1,t3]
set_option maxRecDepth 20000 in
theorem nodeC (hW:W≤1000) (h:RightL d B ms) : ∀m i,i<m→i<d.length→NodeC d B ms W i
 | 0,i,hm,_=>by omega
 | m+1,i,hm,hi=>by
   have hP : ∀j,j<i→NodeC d B ms W j:=fun j hj=>nodeC hW h m j (by omega) (by omega)
   intro x1 b o c v f hc hx ho
   have hcl:=hc.le
   have hn:=h.nod i hi
   have hkd:kdA d i=(d.getD i nD).2.2.2:=rfl
   have hdn:=h.down i hi
   have hms:=h.meq i hi
   have h300:=h.n300
   have hgd:=getD_map' avLNode nD hi
   have hnum:=nums_get d d.length hi
   have hcg:(d.getD i nD).1=6→cG d i<grpN d:=cG_lt d hi
   have hgr : ∀z:AVal,Fs_l14Set_group (.agg [.ro false 4 (d.map avLNode),.ro false 1 (B.map bv),z]) (i:Int)=some (cG d i:Int):=fun z=>by
    refine us_l14Set_group _ _ ?_
    have e1:(AVal.agg [.ro false 4 (d.map avLNode),.ro false 1 (B.map bv),z]).cell 0=.ro false 4 (d.map avLNode):=rfl
    have e2:CT.shape (.slice 4) (.ro false 4 (d.map avLNode))=true:=rfl
    have e3:(AVal.ro false 4 (d.map avLNode)).elems=d.map avLNode:=rfl
    have e4:decide ((i:Int)≤(d.length:Int))=true:=decide_eq_true (by omega)
    have e5:=gr_spec (d.take i) (by rw [List.length_take];omega)
    rw [List.map_take] at e5
    simp only [e1,e2,e3,cond_true,d0_true,List.length_map,e4,Bool.and_self,Int.toNat_natCast,List.drop_zero,e5,Option.bind_some,cG]
   have hlen2:(kdA d i).length≤1048576:=by
    have h1:=get_tot hi
    have h2:=h.tot
    unfold szLNode at h1
    rw [hkd];omega
   have hfs:=feed_s (d.map avLNode) (B.map bv) x1 o (by omega) (by omega)
   have hfi:=col_line x1 c v f W (by omega) (by omega) (by omega) hW
   have hci:=hc.line x1
   have hfd:=fd_size x1
   have hm1:1≤ms i:=by omega
   rw [hkd] at hdn hms hlen2
   generalize hxx:d.getD i nD=x at hn hkd hdn hms hgd hnum hcg hlen2
   obtain ⟨K,S,Nn,ks⟩:=x
   simp only at hkd hdn hms hnum hcg hlen2
   unfold nodQ at hn
   simp only at hn
   have fin : ∀(s:ByteArray) (c' v' f':Nat),CI W (o++s) c' v' f'→s.size≤6300→Fs_l14Set_node (i:Int) (x1:Int) b (d.map avLNode) (B.map bv) (ofBytes o)=some (d.map avLNode,B.map bv,ofBytes (o++s))→Fi_setter_col (i:Int) (x1:Int) b (d.map avLNode) (nums d d.length) (B.map bv) (c:Int) (v:Int) (W:Int) (f:Int)=some (d.map avLNode,nums d d.length,B.map bv,(c':Int),(v':Int),(W:Int),(f':Int)) →
    ∃(o':ByteArray) (c' v' f':Nat),CI W o' c' v' f'∧o'.size≤o.size+ms i*6300∧Fs_l14Set_node (i:Int) (x1:Int) b (d.map avLNode) (B.map bv) (ofBytes o)=some (d.map avLNode,B.map bv,ofBytes o')∧Fi_setter_col (i:Int) (x1:Int) b (d.map avLNode) (nums d d.length) (B.map bv) (c:Int) (v:Int) (W:Int) (f:Int)=some (d.map avLNode,nums d d.length,B.map bv,(c':Int),(v':Int),(W:Int),(f':Int)):=fun s c' v' f' h0 hs h1 h2=>⟨o++s,c',v',f',h0,by rw [ByteArray.size_append];omega,h1,h2⟩
   by_cases k1:K=1
   · subst k1
     simp only [decide_true,cond_true,Bool.and_eq_true,decide_eq_true_eq] at hn
     have cc:capB (o.size+S.size) 1=true:=capB_le (by omega)
     have hcS:=hc.text (no_nl (S:=S) (by cases hnl:nlQ S <;> simp_all))
     refine fin S _ _ _ hcS (by omega) (us_l14Set_node _ _ _ _ _ _ ?_) (ui_setter_col _ _ _ _ _ _ _ _ _ _ ?_)
     · simp only [List.length_map,lt_true hi,d0_true,Bool.and_self,cond_true,Int.toNat_natCast,hgd,sh_LNode,c0_LNode,c1_LNode,decide_true,ofBytes_len,cc,ofBytes_app]
     · simp only [List.length_map,lt_true hi,d0_true,Bool.and_self,cond_true,Int.toNat_natCast,hgd,sh_LNode,c0_LNode,c1_LNode,decide_true,col_text S c (by omega),Option.bind_some]
   by_cases k2:K=2
   · subst k2
     cases b with
     | false=>
       refine fin (fd x1) _ _ _ hci (by omega) (us_l14Set_node _ _ _ _ _ _ ?_) (ui_setter_col _ _ _ _ _ _ _ _ _ _ ?_)
       · simp only [List.length_map,lt_true hi,d0_true,Bool.and_self,cond_true,cond_false,Int.toNat_natCast,hgd,sh_LNode,c0_LNode,Int.reduceEq,decide_true,decide_false,Bool.not_false,hfs,Option.bind_some]
       · simp only [List.length_map,lt_true hi,d0_true,Bool.and_self,cond_true,cond_false,Int.toNat_natCast,hgd,sh_LNode,c0_LNode,Int.reduceEq,decide_true,decide_false,Bool.not_false,hfi,Option.bind_some]
     | true=>
       have cc:capB (o.size+1) 1=true:=capB_le (by omega)
       have e1:(ByteArray.mk #[32])=sp:=rfl
       have hcs:=hc.text (S:=sp) (fun b hb=>by rw [show sp.data.toList=[32] from rfl] at hb;simp only [List.mem_singleton] at hb;subst hb;decide)
       refine fin sp _ _ _ hcs (by rw [sp_size];omega) (us_l14Set_node _ _ _ _ _ _ ?_) (ui_setter_col _ _ _ _ _ _ _ _ _ _ ?_)
       · simp only [List.length_map,lt_true hi,d0_true,Bool.and_self,cond_true,cond_false,Int.toNat_natCast,hgd,sh_LNode,c0_LNode,Int.reduceEq,decide_true,decide_false,Bool.not_true,ofBytes_len,cc,of_sp,ofBytes_app]
       · simp only [List.length_map,lt_true hi,d0_true,Bool.and_self,cond_true,cond_false,Int.toNat_natCast,hgd,sh_LNode,c0_LNode,Int.reduceEq,decide_true,decide_false,Bool.not_true,e1,col_text sp c (by rw [sp_size];omega),Option.bind_some]
   by_cases k3:K=3
   · subst k3
     cases b with
     | false=>
       refine fin (fd x1) _ _ _ hci (by omega) (us_l14Set_node _ _ _ _ _ _ ?_) (ui_setter_col _ _ _ _ _ _ _ _ _ _ ?_)
       · simp only [List.length_map,lt_true hi,d0_true,Bool.and_self,cond_true,cond_false,Int.toNat_natCast,hgd,sh_LNode,c0_LNode,Int.reduceEq,decide_true,decide_false,Bool.not_false,hfs,Option.bind_some]
       · simp only [List.length_map,lt_true hi,d0_true,Bool.and_self,cond_true,cond_false,Int.toNat_natCast,hgd,sh_LNode,c0_LNode,Int.reduceEq,decide_true,decide_false,Bool.not_false,hfi,Option.bind_some]
     | true=>
       refine fin ByteArray.empty c v f (by rw [app_empty];exact hc) (by decide) (us_l14Set_node _ _ _ _ _ _ ?_) (ui_setter_col _ _ _ _ _ _ _ _ _ _ ?_)
       · simp only [List.length_map,lt_true hi,d0_true,Bool.and_self,cond_true,cond_false,Int.toNat_natCast,hgd,sh_LNode,c0_LNode,Int.reduceEq,decide_true,decide_false,Bool.not_true,app_empty]
       · simp only [List.length_map,lt_true hi,d0_true,Bool.and_self,cond_true,cond_false,Int.toNat_natCast,hgd,sh_LNode,c0_LNode,Int.reduceEq,decide_true,decide_false,Bool.not_true,app_empty]
   by_cases k4:K=4
   · subst k4
     refine fin (fd x1) _ _ _ hci (by omega) (us_l14Set_node _ _ _ _ _ _ ?_) (ui_setter_col _ _ _ _ _ _ _ _ _ _ ?_)
     · simp only [List.length_map,lt_true hi,d0_true,Bool.and_self,cond_true,cond_false,Int.toNat_natCast,hgd,sh_LNode,c0_LNode,Int.reduceEq,decide_true,decide_false,hfs,Option.bind_some]
     · simp only [List.length_map,lt_true hi,d0_true,Bool.and_self,cond_true,cond_false,Int.toNat_natCast,hgd,sh_LNode,c0_LNode,Int.reduceEq,decide_true,decide_false,hfi,Option.bind_some]
   by_cases k5:K=5
   · subst k5
     simp only [Int.reduceEq,decide_true,decide_false,Bool.or_self,cond_true,cond_false,Bool.and_eq_true,decide_eq_true_eq,inQ] at hn
     obtain ⟨cc,rfl⟩:=List.length_eq_one_iff.1 hn.2.1
     obtain ⟨c0,c1⟩:=hdn cc (by simp)
     obtain ⟨j,rfl⟩ : ∃j:Nat,cc=j:=⟨cc.toNat,by omega⟩
     obtain ⟨n,rfl⟩ : ∃n:Nat,Nn=n:=⟨Nn.toNat,by omega⟩
     simp only [List.map_cons,List.map_nil,List.sum_cons,List.sum_nil,Int.toNat_natCast,Nat.add_zero] at hms
     obtain ⟨o',ca,va,fa,r0,r1,r2,r3⟩:=hP j (by omega) (x1+n) b o c v f hc (by omega) (by omega)
     have w1:IntKind.wrap .i64 ((x1:Int)+(n:Int))=((x1+n:Nat):Int):=by rw [wrap64 (by omega) (by omega)];omega
     have l1:decide ((0:Int)<(([iv (j:Int)]:List AVal).length:Int))=true:=rfl
     have g0:([iv (j:Int)]:List AVal).getD 0 .und=iv (j:Int):=rfl
     refine ⟨o',ca,va,fa,r0,by omega,us_l14Set_node _ _ _ _ _ _ ?_,ui_setter_col _ _ _ _ _ _ _ _ _ _ ?_⟩
     · simp only [List.length_map,lt_true hi,d0_true,Bool.and_self,cond_true,cond_false,Int.toNat_natCast,hgd,sh_LNode,c0_LNode,c2_LNode,c3_LNode,Int.reduceEq,decide_true,decide_false,List.map_cons,List.map_nil,l1,g0,e_int,e_toInt,w1,r2,Option.bind_some]
     · simp only [List.length_map,lt_true hi,d0_true,Bool.and_self,cond_true,cond_false,Int.toNat_natCast,hgd,sh_LNode,c0_LNode,c2_LNode,c3_LNode,Int.reduceEq,decide_true,decide_false,List.map_cons,List.map_nil,l1,g0,e_int,e_toInt,w1,r3,Option.bind_some]
   by_cases k6:K=6
   · subst k6
     simp only [Int.reduceEq,decide_true,decide_false,Bool.or_self,cond_true,cond_false,Bool.and_eq_true,decide_eq_true_eq] at hn
     obtain ⟨cc,rfl⟩:=List.length_eq_one_iff.1 hn.2.1
     obtain ⟨c0,c1⟩:=hdn cc (by simp)
     obtain ⟨j,rfl⟩ : ∃j:Nat,cc=j:=⟨cc.toNat,by omega⟩
     simp only [List.map_cons,List.map_nil,List.sum_cons,List.sum_nil,Int.toNat_natCast,Nat.add_zero] at hms
     have l1:decide ((0:Int)<(([iv (j:Int)]:List AVal).length:Int))=true:=rfl
     have g0:([iv (j:Int)]:List AVal).getD 0 .und=iv (j:Int):=rfl
     have hc2:=hcg rfl
     have hcb:cG d i<B.length:=by rw [h.nb];exact hc2
     have gb:=getD_map' bv false hcb
     have hsb : ∀z:Bool,CT.shape .bool (bv z)=true:=fun _=>rfl
     have htb : ∀z:Bool,(bv z).toBool=z:=fun _=>rfl
     rw [if_pos ⟨hi,rfl⟩] at hnum
     cases b with
     | true=>
       obtain ⟨o',ca,va,fa,r0,r1,r2,r3⟩:=hP j (by omega) x1 true o c v f hc (by omega) (by omega)
       refine ⟨o',ca,va,fa,r0,by omega,us_l14Set_node _ _ _ _ _ _ ?_,ui_setter_col _ _ _ _ _ _ _ _ _ _ ?_⟩
       · simp only [List.length_map,lt_true hi,d0_true,Bool.and_self,cond_true,cond_false,Int.toNat_natCast,hgd,sh_LNode,c0_LNode,c3_LNode,Int.reduceEq,decide_true,decide_false,List.map_cons,List.map_nil,l1,g0,e_int,e_toInt,r2,Option.bind_some]
       · simp only [List.length_map,lt_true hi,d0_true,Bool.and_self,cond_true,cond_false,Int.toNat_natCast,hgd,sh_LNode,c0_LNode,c3_LNode,Int.reduceEq,decide_true,decide_false,List.map_cons,List.map_nil,l1,g0,e_int,e_toInt,r3,Option.bind_some]
     | false=>
       obtain ⟨o',ca,va,fa,r0,r1,r2,r3⟩:=hP j (by omega) x1 (!(B.getD (cG d i) false)) o c v f hc (by omega) (by omega)
       refine ⟨o',ca,va,fa,r0,by omega,us_l14Set_node _ _ _ _ _ _ ?_,ui_setter_col _ _ _ _ _ _ _ _ _ _ ?_⟩
       · simp only [List.length_map,lt_true hi,d0_true,Bool.and_self,cond_true,cond_false,Int.toNat_natCast,hgd,sh_LNode,c0_LNode,c3_LNode,Int.reduceEq,decide_true,decide_false,List.map_cons,List.map_nil,l1,g0,e_int,e_toInt,hgr,Option.bind_some,lt_true hcb,gb,hsb,htb,r2]
       · simp only [List.length_map,lt_true hi,d0_true,Bool.and_self,cond_true,cond_false,Int.toNat_natCast,hgd,sh_LNode,c0_LNode,c3_LNode,Int.reduceEq,decide_true,decide_false,List.map_cons,List.map_nil,l1,g0,e_int,e_toInt,nums_len,hnum,lt_true hcb,gb,hsb,htb,r3,Option.bind_some]
   by_cases k7:K=7
   · subst k7
     obtain ⟨o',ca,va,fa,r0,r1,r2,r3⟩:=kidsC hW hP x1 b (by omega) 7 S Nn ks [] (by simpa using hlen2) (fun q hq=>by have:=hdn q hq;omega) o c v f hc (by omega)
     simp only [List.nil_append,List.length_nil,Int.natCast_zero] at r2 r3
     refine ⟨o',ca,va,fa,r0,by omega,us_l14Set_node _ _ _ _ _ _ ?_,ui_setter_col _ _ _ _ _ _ _ _ _ _ ?_⟩
     · simp only [List.length_map,lt_true hi,d0_true,Bool.and_self,cond_true,cond_false,Int.toNat_natCast,hgd,sh_LNode,c0_LNode,c1_LNode,c2_LNode,c3_LNode,Int.reduceEq,decide_true,decide_false,r2,Option.bind_some]
     · simp only [List.length_map,lt_true hi,d0_true,Bool.and_self,cond_true,cond_false,Int.toNat_natCast,hgd,sh_LNode,c0_LNode,c3_LNode,Int.reduceEq,decide_false,r3,Option.bind_some]
   · simp only [k1,k2,k3,k4,k5,k6,k7,decide_false,Bool.or_self,cond_false,Bool.false_eq_true] at hn
end
end Go.Proofs.Ytnbpmjfemeeecaa
