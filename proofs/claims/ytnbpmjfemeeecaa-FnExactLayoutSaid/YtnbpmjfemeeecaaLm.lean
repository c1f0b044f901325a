/- Layouts: how many nodes stand at or below a node; plain lists and numbers. -/
import Derived.Test.YtnbpmjfemeeecaaLyp
namespace Go.Proofs.Ytnbpmjfemeeecaa
open Go.VK
section
variable (kd:Nat→List Int)
def massF:Nat→Nat→Nat
 | 0,_=>0
 | f+1,i=>1+((kd i).map fun k=>massF f k.toNat).sum
def mass (i:Nat):Nat:=massF kd (i+1) i
def DownQ (n:Nat):Prop := ∀i,i<n → ∀x∈kd i,0≤x∧x<(i:Int)
variable {kd}
theorem massF_eq {n:Nat} (h:DownQ kd n) : ∀m i,i≤m→i<n → ∀f,i<f→massF kd f i=mass kd i
 | m,i,hm,hi,0,hf=>by omega
 | m,i,hm,hi,f+1,hf=>by
   unfold mass
   simp only [massF]
   congr 2
   refine List.map_congr_left fun k hk => ?_
   obtain ⟨h1,h2⟩:=h i hi k hk
   have hk2:k.toNat<i:=by omega
   cases m with
   | zero=>omega
   | succ m=>rw [massF_eq h m k.toNat (by omega) (by omega) f (by omega),massF_eq h m k.toNat (by omega) (by omega) i hk2]
theorem mass_eq {n:Nat} (h:DownQ kd n) {i:Nat} (hi:i<n):mass kd i=1+((kd i).map fun k=>mass kd k.toNat).sum:=by
 show massF kd (i+1) i=_
 simp only [massF]
 congr 2
 refine List.map_congr_left fun k hk => ?_
 obtain ⟨h1,h2⟩:=h i hi k hk
 exact massF_eq h i k.toNat (by omega) (by omega) i (by omega)
def TS (N:Nat):Nat:=((List.range N).map (mass kd)).sum
theorem TS_succ (N:Nat):TS (kd:=kd) (N+1)=TS (kd:=kd) N+mass kd N:=by simp [TS,List.range_succ]
theorem TS_ups {n:Nat} (h:DownQ kd n) : ∀N,N≤n→TS (kd:=kd) N=N+((ups kd N).map fun k=>mass kd k.toNat).sum
 | 0,_=>by simp [TS,ups]
 | N+1,hN=>by
   rw [TS_succ,TS_ups h N (by omega),mass_eq h (by omega)]
   simp only [ups,List.map_append,List.sum_append]
   omega
theorem sum_le (f:Nat→Nat) : ∀(M:Nat) (l:List Int),l.Nodup→(∀x∈l,0≤x∧x<(M:Int))→(l.map fun k=>f k.toNat).sum≤((List.range M).map f).sum
 | 0,l,_,h=>by
   cases l with
   | nil=>simp
   | cons x l=>have:=h x (by simp);omega
 | M+1,l,hn,h=>by
   rw [List.range_succ,List.map_append,List.sum_append]
   simp only [List.map_cons,List.map_nil,List.sum_cons,List.sum_nil,Nat.add_zero]
   by_cases hm:(M:Int)∈l
   · have hp:=List.perm_cons_erase hm
     have e:(l.map fun k=>f k.toNat).sum=(((M:Int)::l.erase (M:Int)).map fun k=>f k.toNat).sum:=(hp.map _).sum_nat
     have hn2:=hn.erase (M:Int)
     have ih:=sum_le f M (l.erase (M:Int)) hn2 fun x hx=>by
      have hxl:=List.mem_of_mem_erase hx
      have:=h x hxl
      have hne:x≠(M:Int):=by
       rintro rfl
       exact (List.Nodup.not_mem_erase hn) hx
      omega
     rw [e]
     simp only [List.map_cons,List.sum_cons,Int.toNat_natCast]
     omega
   · have ih:=sum_le f M l hn fun x hx=>by
      have:=h x hx
      have hne:x≠(M:Int):=fun e=>hm (e▸hx)
      omega
     omega
theorem ups_down {n:Nat} (h:DownQ kd n) : ∀N,N≤n → ∀x∈ups kd N,0≤x∧x<(N:Int)-1
 | 0,_,x,hx=>by simp [ups] at hx
 | N+1,hN,x,hx=>by
   simp only [ups,List.mem_append] at hx
   rcases hx with hx|hx
   · have:=ups_down h N (by omega) x hx;omega
   · have:=h N (by omega) x hx;omega
theorem mass_le {n:Nat} (h:DownQ kd n) (hn:(ups kd n).Nodup) {i:Nat} (hi:i<n):mass kd i≤i+1:=by
 have h1:=TS_ups h (i+1) (by omega)
 rw [TS_succ] at h1
 have hnd:(ups kd (i+1)).Nodup:=ups_nodup (n:=n-(i+1)) kd (by rw [show i+1+(n-(i+1))=n by omega];exact hn)
 have h2:=sum_le (mass kd) i (ups kd (i+1)) hnd fun x hx=>by
  have:=ups_down h (i+1) (by omega) x hx
  omega
 have h3:((List.range i).map (mass kd)).sum=TS (kd:=kd) i:=rfl
 omega
end
end Go.Proofs.Ytnbpmjfemeeecaa
