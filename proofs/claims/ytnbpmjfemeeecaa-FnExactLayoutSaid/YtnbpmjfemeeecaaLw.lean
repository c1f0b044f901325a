/- A layout's text: both sides write the same. -/
import Derived.Test.YtnbpmjfemeeecaaLy3
import Derived.Test.YtnbpmjfemeeecaaLm
namespace Go.Proofs.Ytnbpmjfemeeecaa
open Go.VK AVal
theorem ofBytes_app (a b:ByteArray):ofBytes (a++b)=ofBytes a++ofBytes b:=by simp [ofBytes,ByteArray.data_append]
theorem ofBytes_len (a:ByteArray):(ofBytes a).length=a.size:=by
 simp only [ofBytes,List.length_map,Array.length_toList]
 rfl
theorem ofBytes_int (a:ByteArray):allInt .u8 (ofBytes a)=true:=by
 simp only [allInt,ofBytes,List.all_map,List.all_eq_true]
 intro x _
 simp [CT.shape]
theorem ofBytes_back (a:ByteArray):bytesOfL (ofBytes a)=a:=by
 cases a with
 | mk d=>
   simp only [bytesOfL,ofBytes,List.map_map]
   congr 1
   have:(fun x:AVal=>UInt8.ofNat x.toInt.toNat)∘(fun b:UInt8=>AVal.int .u8 (b.toNat:Int))=id:=by
    funext b
    simp [AVal.toInt]
   rw [this];simp
def sp:ByteArray:=ByteArray.mk #[32]
def nl:ByteArray:=ByteArray.mk #[10]
theorem of_sp:([.int .u8 32]:List AVal)=ofBytes sp:=rfl
theorem of_nl:([.int .u8 10]:List AVal)=ofBytes nl:=rfl
theorem sp_size:sp.size=1:=rfl
theorem nl_size:nl.size=1:=rfl
theorem repB_zero (z:ByteArray):repB z 0=ByteArray.empty:=rfl
theorem repB_succ (z:ByteArray) (n:Nat):repB z (n+1)=z++repB z n:=by
 apply ByteArray.ext
 simp [repB,repL,ByteArray.data_append]
theorem repB_size (z:ByteArray) : ∀n,(repB z n).size=n*z.size
 | 0=>by simp [repB_zero]
 | n+1=>by rw [repB_succ,ByteArray.size_append,repB_size z n,Nat.succ_mul];omega
theorem app_empty (a:ByteArray):a++ByteArray.empty=a:=by
 apply ByteArray.ext;simp []
def fd (n:Nat):ByteArray:=nl++repB sp n
theorem fd_size (n:Nat):(fd n).size=n+1:=by rw [fd,ByteArray.size_append,repB_size,nl_size,sp_size];omega
theorem feed_0 (D Bv:List AVal) (n:Nat) (hn:n≤10000) : ∀m i,i+m=n → ∀o:ByteArray,o.size+m≤60000000→Ls_l14Set_feed_0 (n:Int) (i:Int) D Bv (ofBytes o)=some (D,Bv,ofBytes (o++repB sp m))
 | 0,i,h,o,ho=>by
   have:i=n:=by omega
   subst this
   refine ls_l14Set_feed_0 _ _ _ _ _ ?_
   simp only [lt_self,cond_false,repB_zero,app_empty]
 | m+1,i,h,o,ho=>by
   have hi:i<n:=by omega
   have cc:capB (o.size+1) 1=true:=capB_le (by omega)
   have w1:IntKind.wrap .i64 ((i:Int)+1)=((i+1:Nat):Int):=wrap_i (by omega)
   refine ls_l14Set_feed_0 _ _ _ _ _ ?_
   simp only [lt_true hi,cond_true,ofBytes_len,cc,of_sp,←ofBytes_app,w1,feed_0 D Bv n hn m (i+1) (by omega) (o++sp) (by rw [ByteArray.size_append,sp_size];omega),repB_succ,ByteArray.append_assoc]
theorem feed_s (D Bv:List AVal) (n:Nat) (o:ByteArray) (hn:n≤10000) (ho:o.size≤5000000):Fs_l14Set_feed (n:Int) D Bv (ofBytes o)=some (D,Bv,ofBytes (o++fd n)):=by
 have cc:capB (o.size+1) 1=true:=capB_le (by omega)
 refine us_l14Set_feed _ _ _ _ ?_
 have e:=feed_0 D Bv n hn n 0 (by omega) (o++nl) (by rw [ByteArray.size_append,nl_size];omega)
 simp only [Int.natCast_zero] at e
 simp only [ofBytes_len,cc,cond_true,of_nl,←ofBytes_app,e,Option.bind_some,fd,ByteArray.append_assoc]
theorem ws (s o:ByteArray) (h:o.size+s.size≤100000000):Fstrings_Builder_WriteString s (bldMk bT bE o)=some ((s.size:Int),bldMk bT bE (o++s)):=by
 have hw:(bldQ bT bE (bldMk bT bE o)&&Nat.ble ((bldS (bldMk bT bE o)).size+s.size) 140737488355328)=true:=by
  rw [bldQ_mk,bldS_mk,Bool.true_and];exact Nat.ble_eq_true_of_le (by omega)
 have:=ustrings_Builder_WriteString s (bldMk bT bE o) hw
 rw [bldS_mk] at this;exact this
theorem text_i (s o:ByteArray) (h:o.size+s.size≤100000000):Fi_setText_1 s (bldMk bT bE o)=some (bldMk bT bE (o++s)):=
 ui_setText_1 _ _ (by simp only [ws s o h,Option.bind_some])
theorem feed_i (n:Nat) (o:ByteArray) (hn:n≤10000) (ho:o.size≤5000000):Fi_setText_2 (n:Int) (bldMk bT bE o)=some (bldMk bT bE (o++fd n)):=by
 refine ui_setText_2 _ _ ?_
 have hr:Fstrings_Repeat sp (n:Int)=some (repB sp n):=by
  have:=ustrings_Repeat sp (n:Int) (by
   have e1:decide ((0:Int)≤(n:Int))=true:=decide_eq_true (by omega)
   have e2:decide ((n:Int)≤9223372036854775807)=true:=decide_eq_true (by omega)
   have e3:Nat.ble (sp.size*(n:Int).toNat) 140737488355328=true:=Nat.ble_eq_true_of_le (by rw [sp_size,Int.toNat_natCast];omega)
   rw [e1,e2,e3];rfl)
  rw [Int.toNat_natCast] at this;exact this
 have e1:(ByteArray.mk #[32])=sp:=rfl
 have e2:(ByteArray.mk #[10])=nl:=rfl
 have hf:fits64 (nl.size+(repB sp n).size)=true:=fits64_of (by rw [repB_size,nl_size,sp_size];omega)
 have hs:(nl++repB sp n).size=n+1:=fd_size n
 simp only [e1,e2,hr,Option.bind_some,hf,cond_true,ws (nl++repB sp n) o (by rw [hs];omega),fd]
def cG (d:List LNodeD) (i:Nat):Nat:=grpN (d.take i)
theorem grp_fold (d:List LNodeD) (m:Nat) : ∀i,i≤m→i≤d.length→(List.range' 0 i).foldl (fun s j=>grF (d.take m) j s) 0=(List.range' 0 i).foldl (fun s j=>grF d j s) 0:=fun i him hi=>by
 have key : ∀(l:List Nat) (z:Nat),(∀j∈l,j<m)→l.foldl (fun s j=>grF (d.take m) j s) z=l.foldl (fun s j=>grF d j s) z:=by
  intro l
  induction l with
  | nil=>intro z _;rfl
  | cons j l ih=>
    intro z hl
    have hj:=hl j (by simp)
    have e:grF (d.take m) j z=grF d j z:=by
     unfold grF
     have:(d.take m).getD j nD=d.getD j nD:=by simp [List.getD_eq_getElem?_getD,hj]
     rw [this]
    simp only [List.foldl_cons,e]
    exact ih _ fun q hq=>hl q (by simp [hq])
 exact key _ _ fun j hj=>by
  have:j<i:=by simpa using hj
  omega
theorem cG_fold (d:List LNodeD) {i:Nat} (hi:i≤d.length):cG d i=(List.range' 0 i).foldl (fun s j=>grF d j s) 0:=by
 unfold cG grpN
 rw [List.length_take,Nat.min_eq_left hi]
 exact grp_fold d i i (Nat.le_refl i) hi
theorem cG_succ (d:List LNodeD) {i:Nat} (hi:i<d.length):cG d (i+1)=grF d i (cG d i):=by
 rw [cG_fold d (by omega),cG_fold d (by omega),List.range'_concat]
 simp
theorem cG_le (d:List LNodeD) : ∀n i,i+n≤d.length→cG d i≤cG d (i+n)
 | 0,i,_=>Nat.le_refl _
 | n+1,i,h=>by
   have:=cG_le d n i (by omega)
   rw [show i+(n+1)=(i+n)+1 by omega,cG_succ d (by omega)]
   unfold grF;cases decide ((d.getD (i+n) nD).1=6) <;> simp <;> omega
theorem cG_all (d:List LNodeD):cG d d.length=grpN d:=by unfold cG;rw [List.take_length]
theorem cG_lt (d:List LNodeD) {i:Nat} (hi:i<d.length) (hk:(d.getD i nD).1=6):cG d i<grpN d:=by
 have h1:=cG_succ d hi
 have h2:=cG_le d (d.length-(i+1)) (i+1) (by omega)
 rw [show i+1+(d.length-(i+1))=d.length by omega,cG_all] at h2
 simp only [grF,hk,decide_true,cond_true] at h1
 omega
theorem cG_small (d:List LNodeD) : ∀i,i≤d.length→cG d i≤i
 | 0,_=>by simp [cG,grpN]
 | i+1,h=>by
   have:=cG_small d i (by omega)
   rw [cG_succ d (by omega)]
   exact grF_le d i _ this
def nums (d:List LNodeD) (i:Nat):List AVal:=(List.range d.length).map fun j=>iv (if j<i∧(d.getD j nD).1=6 then (cG d j:Int) else 0)
theorem nums_len (d:List LNodeD) (i:Nat):(nums d i).length=d.length:=by simp [nums]
theorem nums_get (d:List LNodeD) (i:Nat) {j:Nat} (hj:j<d.length):(nums d i).getD j .und=iv (if j<i∧(d.getD j nD).1=6 then (cG d j:Int) else 0):=by
 simp [nums,List.getD_eq_getElem?_getD,hj]
theorem nums_zero (d:List LNodeD):List.replicate d.length (AVal.int .i64 0)=nums d 0:=by
 apply List.ext_getElem?
 intro q
 by_cases hq:q<d.length <;> simp [nums,hq,iv]
theorem nums_set (d:List LNodeD) {i:Nat} (_hi:i<d.length) (hk:(d.getD i nD).1=6):(nums d i).set i (.int .i64 (cG d i))=nums d (i+1):=by
 apply List.ext_getElem?
 intro q
 by_cases hq:q<d.length
 · by_cases h:i=q
   · subst h
     have hk2:=hk
     simp only [List.getD_eq_getElem?_getD,List.getElem?_eq_getElem hq,Option.getD_some] at hk2
     simp [nums,hq,hk2,iv]
   · rw [List.getElem?_set_ne h]
     have e:(q<i+1)↔q<i:=by omega
     simp only [nums,List.getElem?_map,List.getElem?_range hq,Option.map_some,e]
 · simp [nums,hq]
theorem nums_skip (d:List LNodeD) {i:Nat} (hk : ¬(d.getD i nD).1=6):nums d (i+1)=nums d i:=by
 refine List.map_congr_left fun q _ => ?_
 by_cases h:q=i
 · subst h;rw [if_neg (fun q=>hk q.2),if_neg (fun q=>hk q.2)]
 · have e:(q<i+1)↔q<i:=by omega
   simp only [e]
theorem setter_0 (d:List LNodeD) (hd:d.length≤300) (Bv:List AVal) : ∀n i,i+n=d.length→Li_newSetter_0 (cG d i:Int) (d.map avLNode) (d.length:Int) (i:Int) (d.map avLNode) (nums d i) Bv=some (d.map avLNode,nums d d.length,Bv)
 | 0,i,h=>by
   have:i=d.length:=by omega
   subst this
   refine li_newSetter_0 _ _ _ _ _ _ _ ?_
   simp only [lt_self,cond_false]
 | n+1,i,h=>by
   have hi:i<d.length:=by omega
   have hs:=cG_small d i (by omega)
   have w1:IntKind.wrap .i64 ((i:Int)+1)=((i+1:Nat):Int):=wrap_i (by omega)
   have w2:IntKind.wrap .i64 ((cG d i:Int)+1)=((cG d i+1:Nat):Int):=wrap_i (by omega)
   have ih:=setter_0 d hd Bv n (i+1) (by omega)
   refine li_newSetter_0 _ _ _ _ _ _ _ ?_
   have ag : ∀x:Int,aggQ (iv x)=false:=fun _=>rfl
   rw [cG_succ d hi] at ih
   by_cases hk:(d.getD i nD).1=6
   · simp only [grF,hk,decide_true,cond_true] at ih
     simp only [lt_true hi,cond_true,d0_true,List.length_map,Bool.and_self,Int.toNat_natCast,getD_map' avLNode nD hi,sh_LNode,c0_LNode,hk,decide_true,nums_len,blt_true hi,nums_get d i hi,ag,Bool.not_false,w1,w2,nums_set d hi hk,ih]
   · simp only [grF,hk,decide_false,cond_false] at ih
     rw [nums_skip d hk] at ih
     simp only [lt_true hi,cond_true,cond_false,d0_true,List.length_map,Bool.and_self,Int.toNat_natCast,getD_map' avLNode nD hi,sh_LNode,c0_LNode,hk,decide_false,w1,ih]
theorem asRo_nums (d:List LNodeD) (i:Nat):asRoL (nums d i)=nums d i:=by
 unfold nums
 exact asRoL_map (f:=fun j=>iv (if j<i∧(d.getD j nD).1=6 then (cG d j:Int) else 0)) (fun j=>asRo_iv _) _
theorem setter (d:List LNodeD) (hd:d.length≤300) (Bv:List AVal):Fi_newSetter (d.map avLNode) Bv=some (d.map avLNode,nums d d.length,Bv):=by
 have cc:capB d.length 8=true:=capB_le (by omega)
 have le:decide ((d.length:Int)≤(d.length:Int))=true:=by simp
 refine ui_newSetter _ _ ?_
 have e:=setter_0 d hd Bv d.length 0 (by omega)
 have z:cG d 0=0:=by simp [cG,grpN]
 rw [z] at e
 simp only [Int.natCast_zero] at e
 simp only [List.length_map,d0_true,le,Int.toNat_natCast,cc,Bool.and_self,cond_true,nums_zero,e,Option.bind_some,asRo_nums]
end Go.Proofs.Ytnbpmjfemeeecaa
