/- What strings.Repeat gives; under Go's own limit of a text's length. -/
import Derived.Test.YtnbpmjfemeeecaaNb
import Derived.Lib.Repeat
namespace Go.VK
open AVal Go.RowKit
section
variable {P:Program} {Φ:Ctx} {W0 w w':World} {fz al:Nat→Prop} {R:RM} {F:Nat→Foot} {vals:List Value} {args:List AVal}
def CtrRP (P:Program) (f:Nat):Prop := ∀(s:ByteArray) (c:Nat) (w:World),c≤9223372036854775807→s.size*c≤140737488355328 →
 Calls P f #[.string s,.int .i64 c] w fun e w'=>e=.returned (.string ⟨(Lib.repeatL s.data.toList c).toArray⟩)∧Below w.heap.size w w'
theorem repL_eq (l:List UInt8) : ∀n,Lib.repeatL l n=repL l n
 | 0=>rfl
 | n+1=>by simp only [Lib.repeatL,repL,repL_eq l n]
theorem nat_repeat {f:Nat} (hC:CtrRP P f):NatAt W0 P Φ f 5:=by
 intro args objs rs os h w fz al vals R F hE hG
 unfold natF at h
 split at h <;> try (first|(simp at h;done)|(rename_i hh;simp at hh;done)|(rename_i hh _;simp at hh;done))
 · rename_i z n _
   simp only [Bool.cond_eq_ite] at h
   split at h
   · rename_i hc
     simp only [Bool.and_eq_true,decide_eq_true_eq,Nat.ble_eq] at hc
     simp only [Option.some.injEq,Prod.mk.injEq] at h
     obtain ⟨rfl,rfl⟩:=h
     have ha:=hE.args
     simp only [List.map_cons,List.map_nil,EvL] at ha
     obtain ⟨v0,_,rfl,k1,v1,_,rfl,k2,rfl⟩:=ha
     simp only [shift,shift1,EvV] at k1 k2
     subst k1;subst k2
     obtain ⟨m,rfl⟩ : ∃m:Nat,n=m:=⟨n.toNat,by omega⟩
     simp only [Int.toNat_natCast] at hc ⊢
     refine (hC z m w (by omega) hc.2.2).mono ?_
     rintro e w' ⟨rfl,hO⟩
     refine ⟨[.string (repB z m)],fz,fun _=>zf,zf,by simp only [retVal,repB,repL_eq],⟨⟨fun K o ho=>by simp [objsM,numFrom,lk] at ho,fun K o ho=>by simp [objsM,numFrom,lk] at ho,fun K o J u _ ho=>by simp [objsM,numFrom,lk] at ho,fun K o ho=>by simp [objsM,numFrom,lk] at ho,fun b=>by simp [zf],fun K o ho=>by simp [objsM,numFrom,lk] at ho,fun b hb=>by simp [zf] at hb,fun b hb=>Nat.lt_of_lt_of_le (hE.ro.lt b hb) hO.size⟩,?_,rfl,fun _ h=>h,fun _ h=>.inl h,⟨hO.os,hO.tape,hO.output,hO.size,fun b hb _=>hO.block b hb⟩,rfl,fun o ho=>by simp at ho⟩⟩
     exact HandL.toR (by simp only [HandL];exact ⟨_,_,zf,zf,rfl,by simp [HandV,OwC,zf],⟨rfl,fun _=>rfl⟩,fun _=>rfl⟩)
   · simp at h
end
end Go.VK
