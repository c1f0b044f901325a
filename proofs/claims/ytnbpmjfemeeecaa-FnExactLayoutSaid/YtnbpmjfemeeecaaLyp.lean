/- Layouts: what is asked of the nodes, and that the program's two ways to count the kids agree; no condition. -/
import Derived.Test.YtnbpmjfemeeecaaMp
import Derived.Test.YtnbpmjfemeeecaaLo
namespace Go.Proofs.Ytnbpmjfemeeecaa
open Go.VK AVal
def allF (p:Nat→Bool):Nat→Nat→Bool
 | _,0=>true
 | i,n+1=>p i&&allF p (i+1) n
def seqQ (hi:Int):List Int→List Int→Bool
 | _,[]=>true
 | s,x::r=>(decide (0≤x)&&decide (x≤hi))&&(!(s.any fun y=>decide (x=y))&&seqQ hi (s++[x]) r)
def rngQ (hi:Int) (l:List Int):Bool:=l.all fun x=>decide (0≤x)&&decide (x≤hi)
theorem seqQ_iff (hi:Int) : ∀(l s:List Int),s.Nodup→(seqQ hi s l=true↔rngQ hi l=true∧(s++l).Nodup)
 | [],s,h=>by simp [seqQ,rngQ,h]
 | x::r,s,h=>by
   have ha:(s.any fun y=>decide (x=y))=true↔x∈s:=by
    rw [List.any_eq_true]
    exact ⟨fun ⟨y,hy,e⟩=>by rw [of_decide_eq_true e];exact hy,fun hx=>⟨x,hx,by simp⟩⟩
   have e:s++x::r=(s++[x])++r:=by simp
   by_cases hx:x∈s
   · have hn : ¬(s++x::r).Nodup:=fun q=>by
      rw [List.nodup_append] at q
      exact q.2.2 x hx x (by simp) rfl
     simp [seqQ,ha.2 hx,hn]
   · have hs:(s++[x]).Nodup:=by
      rw [List.nodup_append]
      exact ⟨h,by simp,fun z hz b hb q=>hx (by simp only [List.mem_singleton] at hb;subst hb;subst q;exact hz)⟩
     have ha':(s.any fun y=>decide (x=y))=false:=by
      cases g:s.any fun y=>decide (x=y) with
      | false=>rfl
      | true=>exact absurd (ha.1 g) hx
     rw [e,←e]
     simp only [seqQ,ha',Bool.not_false,Bool.true_and,Bool.and_eq_true,seqQ_iff hi r (s++[x]) hs,rngQ,List.all_cons]
     rw [←e]
     constructor
     · rintro ⟨a,b,c⟩;exact ⟨⟨a,b⟩,c⟩
     · rintro ⟨⟨a,b⟩,c⟩;exact ⟨a,b,c⟩
def cntI (j:Int):List Int→Nat
 | []=>0
 | x::r=>(if x=j then 1 else 0)+cntI j r
theorem cntI_app (j:Int) : ∀a b:List Int,cntI j (a++b)=cntI j a+cntI j b
 | [],b=>by simp [cntI]
 | x::a,b=>by simp only [List.cons_append,cntI,cntI_app j a b];omega
theorem cntI_le (j:Int) : ∀a:List Int,cntI j a≤a.length
 | []=>by simp [cntI]
 | x::a=>by have:=cntI_le j a;simp only [cntI,List.length_cons];split <;> omega
theorem cntI_pos {j:Int} : ∀{a:List Int},0<cntI j a↔j∈a
 | []=>by simp [cntI]
 | x::a=>by
   have:=cntI_pos (j:=j) (a:=a)
   simp only [cntI,List.mem_cons]
   by_cases g:x=j
   · simp [g];omega
   · have g' : ¬j=x:=fun q=>g q.symm
     simp [g,g',this]
theorem cntI_nodup : ∀{a:List Int},a.Nodup ↔ ∀j∈a,cntI j a=1
 | []=>by simp
 | x::a=>by
   rw [List.nodup_cons,cntI_nodup (a:=a)]
   constructor
   · rintro ⟨h1,h2⟩ j hj
     have h0 : ¬0<cntI x a:=fun q=>h1 (cntI_pos.1 q)
     rw [List.mem_cons] at hj
     by_cases g:x=j
     · subst g;simp only [cntI,if_true];omega
     · have:j∈a:=hj.resolve_left fun q=>g q.symm
       simp only [cntI,if_neg g,h2 j this]
   · intro h
     have hx:=h x (by simp)
     simp only [cntI,if_true] at hx
     have h0:x∉a:=fun q=>by have:=cntI_pos.2 q;omega
     refine ⟨h0,fun j hj => ?_⟩
     have g : ¬x=j:=fun q=>h0 (q▸hj)
     have:=h j (by simp [hj])
     simp only [cntI,if_neg g] at this
     omega
def sumC (l:List Int):Nat→Nat
 | 0=>0
 | m+1=>sumC l m+cntI (m:Int) l
theorem sumC_nil : ∀m,sumC [] m=0
 | 0=>rfl
 | m+1=>by simp [sumC,sumC_nil m,cntI]
theorem sumC_cons (x:Int) (l:List Int) : ∀m:Nat,0≤x→sumC (x::l) m=sumC l m+if x<(m:Int) then 1 else 0
 | 0,h=>by have : ¬x<((0:Nat):Int):=by omega
           simp only [sumC,if_neg this]
 | m+1,h=>by
   simp only [sumC,sumC_cons x l m h,cntI]
   by_cases g:x=(m:Int)
   · have h1 : ¬x<(m:Int):=by omega
     have h2:x<((m+1:Nat):Int):=by omega
     simp only [if_pos g,if_neg h1,if_pos h2];omega
   · by_cases g2:x<(m:Int)
     · have h2:x<((m+1:Nat):Int):=by omega
       simp only [if_neg g,if_pos g2,if_pos h2];omega
     · have h2 : ¬x<((m+1:Nat):Int):=by omega
       simp only [if_neg g,if_neg g2,if_neg h2];omega
theorem sumC_len (m:Nat) : ∀l:List Int,(∀x∈l,0≤x∧x<(m:Int))→sumC l m=l.length
 | [],_=>by simp [sumC_nil]
 | x::l,h=>by
   have hx:=h x (by simp)
   rw [sumC_cons x l m hx.1,sumC_len m l fun y hy=>h y (by simp [hy]),if_pos hx.2,List.length_cons]
theorem sumC_ones (l:List Int) : ∀m:Nat,(∀j,j<m→cntI (j:Int) l=1)→sumC l m=m
 | 0,_=>rfl
 | m+1,h=>by simp only [sumC,sumC_ones l m fun j hj=>h j (by omega),h m (by omega)]
theorem sumC_le (l:List Int) : ∀m:Nat,(∀j,j<m→cntI (j:Int) l≤1)→sumC l m≤m
 | 0,_=>Nat.le_refl _
 | m+1,h=>by have a:=sumC_le l m fun j hj=>h j (by omega);have b:=h m (by omega);simp only [sumC];omega
theorem sumC_full (l:List Int) : ∀m:Nat,(∀j,j<m→cntI (j:Int) l≤1)→sumC l m=m → ∀j,j<m→cntI (j:Int) l=1
 | 0,_,_,j,hj=>by omega
 | m+1,h,e,j,hj=>by
   have a:=sumC_le l m fun j hj=>h j (by omega)
   have b:=h m (by omega)
   simp only [sumC] at e
   by_cases g:j=m
   · subst g;omega
   · exact sumC_full l m (fun j hj=>h j (by omega)) (by omega) j (by omega)
theorem count_law (m:Nat) (l:List Int) (h : ∀x∈l,0≤x∧x<(m:Int)):(∀j,j<m→cntI (j:Int) l=1)↔l.Nodup∧l.length=m:=by
 constructor
 · intro g
   refine ⟨cntI_nodup.2 fun j hj => ?_,?_⟩
   · have hh:=h j hj
     have:=g j.toNat (by omega)
     rwa [Int.toNat_of_nonneg hh.1] at this
   · rw [←sumC_len m l h,sumC_ones l m g]
 · rintro ⟨g1,g2⟩
   refine sumC_full l m (fun j _ => ?_) (by rw [sumC_len m l h,g2])
   by_cases q:(j:Int)∈l
   · rw [cntI_nodup.1 g1 _ q];exact Nat.le_refl 1
   · have : ¬0<cntI (j:Int) l:=fun z=>q (cntI_pos.1 z)
     omega
section
variable (kd:Nat→List Int) (nq:Nat→Bool)
def ups:Nat→List Int
 | 0=>[]
 | i+1=>ups i++kd i
def specQ (i:Nat):Bool:=nq i&&rngQ ((i:Int)-1) (kd i)
def implQ (i:Nat):Bool:=nq i&&seqQ ((i:Int)-1) (ups kd i) (kd i)
theorem ups_pre (i:Nat) : ∀n,∃r,ups kd (i+n)=ups kd i++r
 | 0=>⟨[],by simp⟩
 | n+1=>by
   obtain ⟨r,hr⟩:=ups_pre i n
   exact ⟨r++kd (i+n),by rw [show i+(n+1)=(i+n)+1 by omega,ups,hr,List.append_assoc]⟩
theorem ups_nodup {i n:Nat} (h:(ups kd (i+n)).Nodup):(ups kd i).Nodup:=by
 obtain ⟨r,hr⟩:=ups_pre kd i n
 rw [hr,List.nodup_append] at h
 exact h.1
theorem two_ways : ∀(n i:Nat),(ups kd i).Nodup→(allF (implQ kd nq) i n=true↔allF (specQ kd nq) i n=true∧(ups kd (i+n)).Nodup)
 | 0,i,h=>by simp [allF,h]
 | n+1,i,h=>by
   simp only [allF,Bool.and_eq_true,implQ,specQ,seqQ_iff _ _ _ h]
   rw [show i+(n+1)=(i+1)+n by omega]
   constructor
   · rintro ⟨⟨a,b,c⟩,d⟩
     have:=(two_ways n (i+1) c).1 d
     exact ⟨⟨⟨a,b⟩,this.1⟩,this.2⟩
   · rintro ⟨⟨⟨a,b⟩,d⟩,e⟩
     have c:(ups kd (i+1)).Nodup:=ups_nodup kd e
     exact ⟨⟨a,b,c⟩,(two_ways n (i+1) c).2 ⟨d,e⟩⟩
theorem ups_rng : ∀(n i:Nat),allF (specQ kd nq) i n=true→(∀x∈ups kd i,0≤x∧x<(i:Int)-1)→0<i → ∀x∈ups kd (i+n),0≤x∧x<((i+n:Nat):Int)-1
 | 0,i,_,h,_=>h
 | n+1,i,g,h,hi=>by
   simp only [allF,Bool.and_eq_true,specQ,rngQ,List.all_eq_true,decide_eq_true_eq] at g
   rw [show i+(n+1)=(i+1)+n by omega]
   refine ups_rng n (i+1) g.2 (fun x hx => ?_) (by omega)
   rw [ups,List.mem_append] at hx
   rcases hx with hx|hx
   · have:=h x hx;omega
   · have:=g.1.2 x hx;omega
theorem layout_law (n:Nat) (hn:0<n):(allF (specQ kd nq) 0 n&&allN (fun j=>decide (cntI (j:Int) (ups kd n)=1)) (n-1))=(allF (implQ kd nq) 0 n&&decide ((ups kd n).length=n-1)):=by
 have h0:(ups kd 0).Nodup:=by simp [ups]
 have tw:=two_ways kd nq n 0 h0
 rw [Nat.zero_add] at tw
 rw [Bool.eq_iff_iff,Bool.and_eq_true,Bool.and_eq_true,tw,allN_iff,decide_eq_true_eq]
 simp only [decide_eq_true_eq]
 have rng:allF (specQ kd nq) 0 n=true → ∀x∈ups kd n,0≤x∧x<((n-1:Nat):Int):=by
  intro g
  obtain ⟨m,rfl⟩ : ∃m,n=m+1:=⟨n-1,by omega⟩
  simp only [allF,Bool.and_eq_true,specQ,rngQ,List.all_eq_true,decide_eq_true_eq] at g
  have q : ∀x∈ups kd 1,0≤x∧x<((1:Nat):Int)-1:=by
   intro x hx
   rw [ups,ups,List.nil_append] at hx
   have:=g.1.2 x hx
   omega
  have:=ups_rng kd nq m 1 g.2 q (by omega)
  rw [show 1+m=m+1 by omega] at this
  intro x hx
  have:=this x hx
  omega
 constructor
 · rintro ⟨g,c⟩
   have:=(count_law (n-1) (ups kd n) (rng g)).1 c
   exact ⟨⟨g,this.1⟩,this.2⟩
 · rintro ⟨⟨g,a⟩,b⟩
   exact ⟨g,(count_law (n-1) (ups kd n) (rng g)).2 ⟨a,b⟩⟩
end
end Go.Proofs.Ytnbpmjfemeeecaa
