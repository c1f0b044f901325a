/- Words of one length: which comes first, and their numbers; plain lists and numbers. -/
import Derived.Test.YtgoaegbddpmiiaaFf
namespace Go.Proofs.Ytgoaegbddpmiiaa
open Go.VK AVal
def lexLt:List Int→List Int→Bool
 | a::x,b::y=>if a=b then lexLt x y else decide (a<b)
 | _,_=>false
def code (n:Nat):List Int→Nat
 | []=>0
 | x::r=>x.toNat*n ^ r.length+code n r
def dig (n:Nat) (l:List Int):Prop := ∀x∈l,0≤x∧x<(n:Int)
theorem code_lt {n:Nat} : ∀{l:List Int},dig n l→code n l<n ^ l.length
 | [],_=>by simp [code]
 | x::l,h=>by
   have ih:=code_lt (n:=n) (l:=l) fun y hy=>h y (by simp [hy])
   have hx:=h x (by simp)
   simp only [code,List.length_cons,Nat.pow_succ]
   have h2:(x.toNat+1)*n ^ l.length≤n*n ^ l.length:=Nat.mul_le_mul_right _ (by omega)
   rw [Nat.add_mul,Nat.one_mul] at h2
   rw [Nat.mul_comm (n ^ l.length) n]
   omega
theorem code_lex {n:Nat} : ∀{a b:List Int},dig n a→dig n b→a.length=b.length→lexLt a b=true→code n a<code n b
 | [],[],_,_,_,h=>by simp [lexLt] at h
 | [],_::_,_,_,h,_=>by simp at h
 | _::_,[],_,_,h,_=>by simp at h
 | x::a,y::b,ha,hb,hl,h=>by
   have hl2:a.length=b.length:=by simpa using hl
   have hx:=ha x (by simp)
   have hy:=hb y (by simp)
   have ha2:dig n a:=fun z hz=>ha z (by simp [hz])
   have hb2:dig n b:=fun z hz=>hb z (by simp [hz])
   simp only [lexLt] at h
   simp only [code]
   by_cases e:x=y
   · rw [if_pos e] at h
     have:=code_lex ha2 hb2 hl2 h
     rw [e,hl2];omega
   · rw [if_neg e,decide_eq_true_eq] at h
     have h1:=code_lt ha2
     have h2:(x.toNat+1)*n ^ a.length≤y.toNat*n ^ a.length:=Nat.mul_le_mul_right _ (by omega)
     rw [Nat.add_mul,Nat.one_mul] at h2
     rw [←hl2];omega
def sumF (n:Nat) (g:Nat→Nat):Nat:=((List.range n).map g).sum
theorem sumF_lt {g k:Nat→Nat} {i:Nat} (hi:k i<g i) (he : ∀j,j≠i→k j=g j) : ∀n,i<n→sumF n k<sumF n g
 | 0,h=>by omega
 | n+1,h=>by
   unfold sumF
   simp only [List.range_succ,List.map_append,List.sum_append,List.map_cons,List.map_nil,List.sum_cons,List.sum_nil,Nat.add_zero]
   by_cases hn:i=n
   · subst hn
     have e:(List.range i).map k=(List.range i).map g:=List.map_congr_left fun j hj=>by
      have:j<i:=List.mem_range.1 hj
      exact he j (by omega)
     rw [e];omega
   · have ih:=sumF_lt hi he n (by omega)
     unfold sumF at ih
     rw [he n (by omega)]
     omega
def spell (nt:Nat) (W:Nat→List Int) (l:List Int):List Int:=l.flatMap fun s=>if s<(nt:Int) then [s] else W (sy nt s)
theorem spell_take {nt:Nat} {W:Nat→List Int} {l:List Int} {k:Nat} (hk:k<l.length):spell nt W (l.take (k+1))=spell nt W (l.take k)++(if l.getD k 0<(nt:Int) then [l.getD k 0] else W (sy nt (l.getD k 0))):=by
 have e:l.getD k 0=l[k]:=by simp [List.getD_eq_getElem?_getD,hk]
 unfold spell
 rw [List.take_succ_eq_append_getElem hk,List.flatMap_append,e]
 simp
def known (nt:Nat) (H:Nat→Bool) (l:List Int):Bool:=l.all fun s=>decide (s<(nt:Int))||H (sy nt s)
theorem spell_len {nt:Nat} {W:Nat→List Int} {H:Nat→Bool} {L:Nat→Int} (hW : ∀i,H i=true→((W i).length:Int)=L i) : ∀{l:List Int},known nt H l=true→((spell nt W l).length:Int)=sumI (l.map (lenL nt L))
 | [],_=>by simp [spell,sumI]
 | s::l,h=>by
   simp only [known,List.all_cons,Bool.and_eq_true,Bool.or_eq_true,decide_eq_true_eq] at h
   have ih:=spell_len hW (l:=l) (by simpa [known] using h.2)
   unfold spell at ih ⊢
   rw [List.flatMap_cons,List.length_append,List.map_cons]
   simp only [sumI,lenL]
   by_cases hs:s<(nt:Int)
   · rw [if_pos hs,if_pos hs];simp only [List.length_cons,List.length_nil];omega
   · rw [if_neg hs,if_neg hs]
     have:=hW _ (h.1.resolve_left hs)
     omega
theorem spell_dig {nt:Nat} {W:Nat→List Int} {H:Nat→Bool} (hW : ∀i,H i=true→dig nt (W i)) : ∀{l:List Int},(∀s∈l,0≤s)→known nt H l=true→dig nt (spell nt W l)
 | [],_,_=>fun x hx=>by simp [spell] at hx
 | s::l,h0,h=>by
   simp only [known,List.all_cons,Bool.and_eq_true,Bool.or_eq_true,decide_eq_true_eq] at h
   have ih:=spell_dig hW (l:=l) (fun s hs=>h0 s (by simp [hs])) (by simpa [known] using h.2)
   intro x hx
   unfold spell at hx ih
   rw [List.flatMap_cons,List.mem_append] at hx
   rcases hx with hx|hx
   · by_cases hs:s<(nt:Int)
     · rw [if_pos hs] at hx
       simp only [List.mem_singleton] at hx
       rw [hx];exact ⟨h0 s (by simp),hs⟩
     · rw [if_neg hs] at hx
       exact hW _ (h.1.resolve_left hs) x hx
   · exact ih x hx
theorem known_take {nt:Nat} {H:Nat→Bool} {l:List Int} {k:Nat} (hk:k<l.length):known nt H (l.take (k+1))=(known nt H (l.take k)&&(decide (l.getD k 0<(nt:Int))||H (sy nt (l.getD k 0)))):=by
 have e:l.getD k 0=l[k]:=by simp [List.getD_eq_getElem?_getD,hk]
 unfold known
 rw [List.take_succ_eq_append_getElem hk,List.all_append,e]
 simp
theorem known_no {nt:Nat} {H:Nat→Bool} {l:List Int} {k:Nat} (hk:k<l.length) (h1 : ¬l.getD k 0<(nt:Int)) (h2:H (sy nt (l.getD k 0))=false):known nt H l=false:=by
 rw [Bool.eq_false_iff]
 intro q
 simp only [known,List.all_eq_true,Bool.or_eq_true,decide_eq_true_eq] at q
 have:=(q _ (getD_in hk)).resolve_left h1
 rw [h2] at this;cases this
end Go.Proofs.Ytgoaegbddpmiiaa
