/- Small facts on rows of rows, ranges and budgets; no condition. -/
import Derived.Test.YtgoaegbddpmiiaaUt
namespace Go.Proofs.Ytgoaegbddpmiiaa
open Go.VK AVal
def szR (l:Int) (s:Nat):Int:=if l<s then -1 else l-s
theorem szR_neg {l:Int} {s:Nat} (h:szR l s<0) (_hl:0≤l):l<s:=by unfold szR at h;split at h <;> omega
theorem szR_nn {l:Int} {s:Nat} (h : ¬szR l s<0):(s:Int)≤l:=by unfold szR at h;split at h <;> omega
def rowv (xs:List Int):AVal:=.ro false 1 (xs.map iv)
def rowo (xs:List Int):AVal:=.own 1 (xs.map iv)
theorem asRo_rowo (xs:List Int):asRo (rowo xs)=rowv xs:=by simp only [rowo,asRo,asRoL_map asRo_iv];rfl
theorem asRoL_rowo : ∀xss:List (List Int),asRoL (xss.map rowo)=xss.map rowv
 | []=>by simp [asRoL]
 | x::r=>by simp only [List.map_cons,asRoL,asRo_rowo,asRoL_rowo r]
theorem getD_map' {α:Type} (f:α→AVal) (d:α) {xs:List α} {i:Nat} (h:i<xs.length):(xs.map f).getD i .und=f (xs.getD i d):=by
 simp [List.getD_eq_getElem?_getD,h]
theorem getD_mem {α:Type} (d:α) {xs:List α} {i:Nat} (h:i<xs.length):xs.getD i d∈xs:=by
 simp [List.getD_eq_getElem?_getD,h]
theorem szR_add (l:Int) (a b:Nat) (_h0:0≤l):(if szR l a<0 then -1 else szR (szR l a) b)=szR l (a+b):=by
 unfold szR
 by_cases g:l<(a:Int)
 · have:l<((a+b:Nat):Int):=by omega
   simp [g];omega
 · have h : ¬(l-(a:Int)<0):=by omega
   simp only [g,if_false,h]
   by_cases g2:l-(a:Int)<(b:Int)
   · have:l<((a+b:Nat):Int):=by omega
     simp only [g2,this,if_true]
   · have : ¬l<((a+b:Nat):Int):=by omega
     simp only [g2,this,if_false];omega
theorem szR_le (l:Int) (a:Nat) (h : ¬szR l a<0):0≤szR l a∧szR l a≤l:=by unfold szR at h ⊢;split at h <;> split <;> omega
def inQ (lo hi n:Int):Bool:=decide (lo≤n)&&decide (n≤hi)
theorem e_int (x:Int):CT.shape (.int .i64) (iv x)=true:=rfl
theorem e_toInt (x:Int):(iv x).toInt=x:=rfl
theorem e_row (x:List Int):CT.shape (.slice 1) (rowv x)=true:=rfl
theorem e_elems (x:List Int):(rowv x).elems=x.map iv:=rfl
theorem byte_lt (s:ByteArray) (i:Nat):0≤byteAt s i∧byteAt s i<256:=by
 unfold byteAt
 split
 · rename_i h
   have:=(s[i]'h).toNat_lt
   omega
 · omega
theorem inB_int {i:Int} {n:Nat} (h1:0≤i) (h2:i<n):decide (0≤i)=true∧decide (i<(n:Int))=true:=by simp [h1,h2]
theorem get_ro (t:Bool) (z:Nat) (xs:List AVal) (i:Nat) (p:List Nat):(AVal.ro t z xs).get (i::p)=(xs.getD i .und).get p:=by simp only [AVal.get]
theorem okg_ro (t:Bool) (z:Nat) (xs:List AVal) (i:Nat) (p:List Nat):(AVal.ro t z xs).okg (i::p)=(Nat.blt i xs.length&&(xs.getD i .und).okg p):=by simp only [AVal.okg]
theorem szR_step {l:Int} {a b:Nat} (g : ¬szR l a<0):szR (szR l a) b=szR l (a+b):=by
 unfold szR at g ⊢
 by_cases h:l<(a:Int)
 · simp [h] at g
 · simp only [h,if_false] at g ⊢
   by_cases h2:l-(a:Int)<(b:Int)
   · have:l<((a+b:Nat):Int):=by omega
     simp only [h2,this,if_true]
   · have : ¬l<((a+b:Nat):Int):=by omega
     simp only [h2,this,if_false];omega
theorem szR_over {l:Int} {a b:Nat} (g:szR l a<0) (h0:0≤l):szR l (a+b) = -1:=by
 have:=szR_neg g h0
 unfold szR
 rw [if_pos (by omega)]
theorem szR_m1 {l:Int} {a:Nat} (g:szR l a<0) (h0:0≤l):szR l a = -1:=by
 have:=szR_neg g h0
 unfold szR
 rw [if_pos this]
end Go.Proofs.Ytgoaegbddpmiiaa
