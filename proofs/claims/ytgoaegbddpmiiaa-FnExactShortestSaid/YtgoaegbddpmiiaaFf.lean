/- Plain rules: how short a word can be; plain lists and numbers. -/
import Derived.Test.YtgoaegbddpmiiaaFa
namespace Go.Proofs.Ytgoaegbddpmiiaa
open Go.VK AVal
section
variable {nt:Nat} {ps:List ProdD}
def lenL (nt:Nat) (L:Nat→Int) (s:Int):Int:=if s<(nt:Int) then 1 else L (sy nt s)
def sumI:List Int→Int
 | []=>0
 | x::r=>x+sumI r
theorem sumI_app : ∀(a b:List Int),sumI (a++b)=sumI a+sumI b
 | [],b=>by simp [sumI]
 | x::a,b=>by simp only [List.cons_append,sumI,sumI_app a b];omega
def sumL (nt:Nat) (L:Nat→Int) (l:List Int):Int:=if ∀s∈l,0≤lenL nt L s then min (sumI (l.map (lenL nt L))) 1000 else -1
theorem sumI_nn : ∀{l:List Int},(∀x∈l,0≤x)→0≤sumI l
 | [],_=>by simp [sumI]
 | x::l,h=>by
   have h1:=h x (by simp)
   have h2:=sumI_nn (l:=l) fun y hy=>h y (by simp [hy])
   simp only [sumI];omega
theorem sumL_nn {L:Nat→Int} {l:List Int} (h:0≤sumL nt L l):(∀s∈l,0≤lenL nt L s)∧sumL nt L l=min (sumI (l.map (lenL nt L))) 1000:=by
 unfold sumL at h ⊢
 by_cases g : ∀s∈l,0≤lenL nt L s
 · rw [if_pos g];exact ⟨g,rfl⟩
 · rw [if_neg g] at h;omega
theorem sumL_le (L:Nat→Int) (l:List Int) : -1≤sumL nt L l∧sumL nt L l≤1000:=by
 unfold sumL
 split
 · rename_i h
   have:=sumI_nn (l:=l.map (lenL nt L)) fun x hx=>by obtain ⟨s,hs,rfl⟩:=List.mem_map.1 hx;exact h s hs
   omega
 · omega
inductive Der (nt:Nat) (ps:List ProdD):Nat→Int→Prop
 | mk (p:ProdD) (c:Nat→Int):p∈ps→(∀k,k<p.2.1.length→p.2.1.getD k 0<(nt:Int)→c k=1)→(∀k,k<p.2.1.length→(nt:Int)≤p.2.1.getD k 0→Der nt ps (sy nt (p.2.1.getD k 0)) (c k))→Der nt ps (sy nt p.1) (min (sumI ((List.range p.2.1.length).map c)) 1000)
theorem sum_le_sum {a b:Nat→Int} : ∀n,(∀k,k<n→a k≤b k)→sumI ((List.range n).map a)≤sumI ((List.range n).map b)
 | 0,_=>by simp [sumI]
 | n+1,h=>by
   have ih:=sum_le_sum n fun k hk=>h k (by omega)
   have:=h n (by omega)
   simp only [List.range_succ,List.map_append,sumI_app,List.map_cons,List.map_nil,sumI]
   omega
theorem map_range (f:Int→Int) (l:List Int):l.map f=(List.range l.length).map fun k=>f (l.getD k 0):=by
 apply List.ext_getElem?
 intro q
 by_cases hq:q<l.length <;> simp [hq,List.getD_eq_getElem?_getD]
structure LeastOK (nt:Nat) (ps:List ProdD) (L:Nat→Int):Prop where
 snd : ∀i,0≤L i→Der nt ps i (L i)
 neg : ∀i,-1≤L i
 cl : ∀p∈ps,0≤sumL nt L p.2.1→0≤L (sy nt p.1)∧L (sy nt p.1)≤sumL nt L p.2.1
theorem LeastOK.le {L:Nat→Int} (h:LeastOK nt ps L) {i:Nat} {n:Int} (hd:Der nt ps i n):0≤L i∧L i≤n:=by
 induction hd with
 | mk p c hp h1 _ ih=>
   have key : ∀k,k<p.2.1.length→0≤lenL nt L (p.2.1.getD k 0)∧lenL nt L (p.2.1.getD k 0)≤c k:=by
    intro k hk
    unfold lenL
    by_cases hs:p.2.1.getD k 0<(nt:Int)
    · rw [if_pos hs,h1 k hk hs];omega
    · rw [if_neg hs];exact ih k hk (by omega)
   have hall : ∀s∈p.2.1,0≤lenL nt L s:=by
    intro s hs
    obtain ⟨k,hk,rfl⟩:=List.mem_iff_getElem.1 hs
    have:=(key k hk).1
    simpa [List.getD_eq_getElem?_getD,hk] using this
   have e:sumL nt L p.2.1=min (sumI (p.2.1.map (lenL nt L))) 1000:=by unfold sumL;rw [if_pos hall]
   have hle:sumI (p.2.1.map (lenL nt L))≤sumI ((List.range p.2.1.length).map c):=by
    rw [map_range];exact sum_le_sum _ fun k hk=>(key k hk).2
   have h0:0≤sumI (p.2.1.map (lenL nt L)):=sumI_nn fun x hx=>by obtain ⟨s,hs,rfl⟩:=List.mem_map.1 hx;exact hall s hs
   have:=h.cl p hp (by rw [e];omega)
   rw [e] at this
   omega
theorem least_eq {L M:Nat→Int} (h:LeastOK nt ps L) (k:LeastOK nt ps M):L=M:=by
 funext i
 have a:=h.neg i
 have b:=k.neg i
 by_cases h1:0≤L i
 · have h2:=k.le (h.snd i h1)
   have h3:=h.le (k.snd i h2.1)
   omega
 · by_cases h2:0≤M i
   · have:=h.le (k.snd i h2);omega
   · omega
theorem der_add {L:Nat→Int} (h : ∀i,0≤L i→Der nt ps i (L i)) {p:ProdD} (hp:p∈ps) (hs:0≤sumL nt L p.2.1) : ∀i,0≤upd L (sy nt p.1) (sumL nt L p.2.1) i→Der nt ps i (upd L (sy nt p.1) (sumL nt L p.2.1) i):=by
 intro i hi
 by_cases e:i=sy nt p.1
 · subst e
   rw [upd_at]
   obtain ⟨h1,h2⟩:=sumL_nn hs
   rw [h2,map_range]
   refine .mk p (fun k=>lenL nt L (p.2.1.getD k 0)) hp (fun k _ hlt=>by unfold lenL;rw [if_pos hlt]) fun k hk hge => ?_
   have:=h1 _ (getD_in hk)
   unfold lenL at this ⊢
   rw [if_neg (by omega)] at this ⊢
   exact h _ this
 · rw [upd_ne _ _ e] at hi ⊢
   exact h i hi
theorem sumL_take {L:Nat→Int} {l:List Int} {k:Nat} (hk:k<l.length) {n:Int} (hn:(∀s∈l.take k,0≤lenL nt L s)∧n=min (sumI ((l.take k).map (lenL nt L))) 1000) (h:0≤lenL nt L (l.getD k 0)) :
 (∀s∈l.take (k+1),0≤lenL nt L s)∧min (n+lenL nt L (l.getD k 0)) 1000=min (sumI ((l.take (k+1)).map (lenL nt L))) 1000:=by
 have e:l.getD k 0=l[k]:=by simp [List.getD_eq_getElem?_getD,hk]
 rw [List.take_succ_eq_append_getElem hk]
 refine ⟨fun s hs => ?_,?_⟩
 · rcases List.mem_append.1 hs with hs|hs
   · exact hn.1 s hs
   · simp only [List.mem_singleton] at hs;rw [hs,←e];exact h
 · have h0:0≤sumI ((l.take k).map (lenL nt L)):=sumI_nn fun x hx=>by obtain ⟨s,hs,rfl⟩:=List.mem_map.1 hx;exact hn.1 s hs
   rw [hn.2,List.map_append,sumI_app,e]
   rw [e] at h
   simp only [List.map_cons,List.map_nil,sumI]
   omega
theorem sumL_all {L:Nat→Int} {l:List Int} {n:Int} (hn:(∀s∈l,0≤lenL nt L s)∧n=min (sumI (l.map (lenL nt L))) 1000):sumL nt L l=n:=by
 unfold sumL;rw [if_pos hn.1,hn.2]
theorem sumL_no {L:Nat→Int} {l:List Int} {k:Nat} (hk:k<l.length) (h:lenL nt L (l.getD k 0)<0):sumL nt L l = -1:=by
 unfold sumL
 rw [if_neg fun q=>by have:=q _ (getD_in hk);omega]
end
end Go.Proofs.Ytgoaegbddpmiiaa
