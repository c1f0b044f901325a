/- Small facts on numbers, rows and their values; no condition. -/
import Derived.Test.YtgoaegbddpmiiaaVmd
import Derived.Tactics
namespace Go.Proofs.Ytgoaegbddpmiiaa
open Go.VK AVal
theorem wrap64 {n:Int} (h1 : -9223372036854775808≤n) (h2:n≤9223372036854775807):IntKind.wrap .i64 n=n:=by
 simp only [IntKind.wrap,IntKind.bits,IntKind.signed,Bool.true_and,decide_eq_true_eq,ge_iff_le]
 split <;> omega
theorem wf64 {n:Int} (h:(Lit.int .i64 n).wf=true) : -9223372036854775808≤n∧n≤9223372036854775807:=by
 simp [Lit.wf,IntKind.min,IntKind.max,IntKind.bits,IntKind.signed] at h
 omega
def iv (n:Int):AVal:=.int .i64 n
theorem getD_map {α:Type} (f:α→AVal) {xs:List α} {i:Nat} (h:i<xs.length):(xs.map f).getD i .und=f xs[i]:=by
 simp [List.getD_eq_getElem?_getD,h]
theorem asRoL_eq : ∀{l:List AVal},(∀x∈l,asRo x=x)→asRoL l=l
 | [],_=>by simp [asRoL]
 | x::l,h=>by
   simp only [asRoL]
   rw [h x (by simp),asRoL_eq fun y hy=>h y (by simp [hy])]
theorem asRoL_map {α:Type} {f:α→AVal} (hf : ∀x,asRo (f x)=f x) (xs:List α):asRoL (xs.map f)=xs.map f:=
 asRoL_eq fun x hx=>by obtain ⟨y,_,rfl⟩:=List.mem_map.1 hx;exact hf y
theorem noRoL_eq : ∀{l:List AVal},(∀x∈l,noRo x=true)→noRoL l=true
 | [],_=>by simp [noRoL]
 | x::l,h=>by
   simp only [noRoL,h x (by simp),Bool.true_and]
   exact noRoL_eq fun y hy=>h y (by simp [hy])
theorem noRoL_map {α:Type} {f:α→AVal} (hf : ∀x,noRo (f x)=true) (xs:List α):noRoL (xs.map f)=true:=
 noRoL_eq fun x hx=>by obtain ⟨y,_,rfl⟩:=List.mem_map.1 hx;exact hf y
theorem asRo_iv (n:Int):asRo (iv n)=iv n:=by simp [iv,asRo]
theorem noRo_iv (n:Int):noRo (iv n)=true:=by simp [iv,noRo]
theorem take_succ_map {α:Type} (f:α→AVal) {xs:List α} {i:Nat} (h:i<xs.length):(xs.take (i+1)).map f=(xs.take i).map f++[f xs[i]]:=by
 rw [List.take_succ_eq_append_getElem h,List.map_append];rfl
def filled {α:Type} (f:α→AVal) (z:AVal) (xs:List α) (i:Nat):List AVal:=(xs.take i).map f++List.replicate (xs.length-i) z
theorem filled_len {α:Type} (f:α→AVal) (z:AVal) {xs:List α} {i:Nat} (h:i≤xs.length):(filled f z xs i).length=xs.length:=by
 simp [filled];omega
theorem filled_get {α:Type} (f:α→AVal) (z:AVal) {xs:List α} {i:Nat} (h:i<xs.length):(filled f z xs i).getD i .und=z:=by
 have h1:((xs.take i).map f).length=i:=by simp;omega
 unfold filled
 rw [List.getD_eq_getElem?_getD,List.getElem?_append_right (by omega),h1,Nat.sub_self,List.getElem?_replicate]
 have:0<xs.length-i:=by omega
 simp [this]
theorem filled_set {α:Type} (f:α→AVal) (z:AVal) {xs:List α} {i:Nat} (h:i<xs.length):(filled f z xs i).set i (f xs[i])=filled f z xs (i+1):=by
 have h1:((xs.take i).map f).length=i:=by simp;omega
 unfold filled
 rw [List.set_append_right _ _ (by omega),h1,Nat.sub_self,take_succ_map f h]
 obtain ⟨m,hm⟩ : ∃m,xs.length-i=m+1:=⟨xs.length-i-1,by omega⟩
 have h2:xs.length-(i+1)=m:=by omega
 rw [hm,h2,List.replicate_succ]
 simp
theorem filled_zero {α:Type} (f:α→AVal) (z:AVal) (xs:List α):filled f z xs 0=List.replicate xs.length z:=by simp [filled]
theorem filled_all {α:Type} (f:α→AVal) (z:AVal) (xs:List α):filled f z xs xs.length=xs.map f:=by simp [filled]
theorem capB_le {n b:Nat} (h:n*b≤70368744177664):capB n b=true:=by simp [capB,h]
theorem inB_true {i n:Nat} (h:i<n):(decide ((0:Int)≤(i:Int))&&decide ((i:Int)<(n:Int)))=true:=by simp [h]
theorem dlt_true {i n:Nat} (h:i<n):decide ((i:Int)<(n:Int))=true:=by simp [h]
theorem d0_true (i:Nat):decide ((0:Int)≤(i:Int))=true:=by simp
theorem dlt_false {i n:Nat} (h:n≤i):decide ((i:Int)<(n:Int))=false:=by simp;omega
theorem wrap_succ {i n:Nat} (h:i<n) (hn:n≤9000000000000000000):IntKind.wrap .i64 ((i:Int)+1)=((i+1:Nat):Int):=by
 rw [wrap64 (by omega) (by omega)];omega
theorem mid_get {α:Type} (pre suf:List α) (x d:α):(pre++x::suf).getD pre.length d=x:=by simp
theorem mid_set {α:Type} (pre suf:List α) (x y:α):(pre++x::suf).set pre.length y=pre++y::suf:=by simp
theorem mid_len {α:Type} (pre suf:List α) (x:α):pre.length<(pre++x::suf).length:=by simp
theorem map_mid {α:Type} (f:α→AVal) (pre suf:List α) (x:α):((pre++x::suf).map f).getD pre.length .und=f x:=by simp
theorem blt_true {i n:Nat} (h:i<n):Nat.blt i n=true:=by simpa using h
def ev2 (p:Int×Int):AVal:=.agg [.int .i64 p.1,.int .i64 p.2]
theorem asRo_ev2 (p:Int×Int):asRo (ev2 p)=ev2 p:=by simp [ev2,asRo,asRoL]
theorem noRo_ev2 (p:Int×Int):noRo (ev2 p)=true:=by simp [ev2,noRo,noRoL]
def marks (k:Int):Nat→List AVal
 | 0=>[]
 | n+1=>iv k::marks (k+1) n
theorem marks_len : ∀(k:Int) (n:Nat),(marks k n).length=n
 | _,0=>rfl
 | k,n+1=>by simp [marks,marks_len]
theorem asRo_marks : ∀(k:Int) (n:Nat),asRoL (marks k n)=marks k n
 | _,0=>by simp [marks,asRoL]
 | k,n+1=>by simp [marks,asRoL,asRo_iv,asRo_marks]
theorem wrap_add {k:Int} {i:Int} (h1 : -9223372036854775808≤k+i) (h2:k+i≤9223372036854775807):IntKind.wrap .i64 (k+i)=k+i:=wrap64 h1 h2
end Go.Proofs.Ytgoaegbddpmiiaa
