/- The law FnExactCyclic answers true and leaves its arguments as they read before, for every input; the row, out of the evaluator's answer. -/
import Derived.Test.YtnbpmjfemeeecaaRows
import Derived.Test.YtnbpmjfemeeecaaFe
import Derived.Test.YtnbpmjfemeeecaaVF
import Derived.WalkKit
import Derived.ProofKit
import Derived.OpenShut
import Derived.ShutString
import Derived.ChangeOld
import Derived.Below
import Derived.Carry
import Derived.SizedLaws
import Derived.Tactics
namespace Go.Proofs.Ytnbpmjfemeeecaa.fnExactCyclic
open Go.ChangeShapes Go.WideShapes Go.ChangeAt Go.RowKit Go.VK
theorem own:ownKnob Try.prog.godebug=none:=by kernel_rfl
theorem laidOut:laidOutB Try.prog=true:=by kernel_rfl
set_option maxRecDepth 100000 in
theorem lifted (os:Os) (started:os.Started) (H:Type) (enc:TypeId×Value→H) :
 ReturnsInHanded {} Try.checked os 6 .any (Rows.fnExactCyclicSpec.pre6 enc Try.prog Try.f6 Rows.fnExactCyclicRow.domain false) (Rows.fnExactCyclicSpec.post enc Try.prog Try.f6 false true false false):=by
 refine returnsInHanded_of_change_sized (C:=Try.checked) own started (by kernel_rfl) Try.func6
  (ChangeSpec.witness6 (enc:=enc) (C:=Try.checked) false ⟨#[],#[.agg #[.slice none 0 0,.slice none 0 0,.int .i64 0,.slice none 0 0]],[]⟩ 8 (by kernel_rfl) (by kernel_rfl) (by kernel_rfl) (by kernel_rfl)) ?_
 intro W base args ds gs before hval0 hW hcnd hsz0 _
 have hval : ∀(j:Nat) t v,Try.f6.params[j]? = some t→args[j]? = some v→Value.okWide Try.prog W .any base t v:=hval0
 have hW':=hW
 obtain ⟨p,q,hA0,hV,rfl,hfz,hnd⟩:=hW
 have hA:DataW.TrodAll enc Try.prog W 0 (fun _=>true) true Try.f6.params.toList args.toList ds p:=hA0
 rw [show Try.f6.params = #[56] by kernel_rfl] at hA hval
 have hA2:=hA
 obtain ⟨v0,vs0,d0,ds0,p0,q0,hargs,rfl,rfl,h0,r0⟩:=trodAll_cons hA
 obtain ⟨rfl,rfl,rfl⟩:=trodAll_nil r0
 obtain rfl:args = #[v0]:=by cases args;simp_all
 obtain ⟨rfl,rfl⟩:=trodVars_none hV
 have lt0 : ∀x∈p0,x.block<W.heap.size:=by obtain ⟨m,hm⟩:=h0;exact DataW.trod_lt m _ _ _ hm
 clear hA0 hval0 hsz0
 refine (row_calls tok fnsok mixed (fn:=fn6) (by kernel_rfl) (ds:=[56,52,215,9,3,53,54,218,70]) (by kernel_rfl) (ts:=[56]) (by kernel_rfl) lawCyclic W (natok W) hA2 (fun j t v h=>hval j t v (by simpa using h))).mono fun e W' ⟨he,bel⟩ => ?_
 subst he
 exact ⟨_,rfl,_,_,_,[],_,[],hW',trodAll_mk1 (shut_bool (show Try.prog.underlying 4=_ by kernel_rfl) _),(trodAll_cons_mk (Below.trod laidOut (by kernel_rfl) (of_decide_eq_true (by kernel_rfl)) h0 bel lt0) trodAll_mk0),rfl,bel.frame _,fun h=>by cases h⟩
theorem andI {a b:Bool} (ha:a=true) (hb:b=true):(a&&b)=true:=by rw [ha,hb];rfl
set_option maxHeartbeats 8000000 in
theorem closed:joinedFacts Try.pinned.checked.prog 6 Try.f6 Rows.fnExactCyclicSpec Rows.fnExactCyclicRow=true:=by
 unfold joinedFacts
 repeat' with_reducible (apply andI)
 all_goals (as_aux_lemma=>kernel_rfl)
theorem over:Rows.fnExactCyclicRow.holds Try.pinned (OpenSpec.ofChange Rows.fnExactCyclicSpec):=
 OpenClaim.holds_of_wide 6 Try.f6 rfl rfl rfl rfl rfl rfl rfl ⟨rfl,rfl,rfl,rfl,rfl⟩ rfl rfl rfl rfl rfl (by as_aux_lemma=>kernel_rfl) Try.func6 closed
  (of_decide_eq_true (by kernel_rfl)) (by unfold Func.isWrapper;first|(rw [if_pos (by decide +kernel)];kernel_rfl)|(rw [if_neg (by decide +kernel)];exact ⟨rfl,rfl⟩))
  (fun os started H enc _=>lifted os started H enc)
theorem proved:Rows.FnExactCyclicSaid:=over
#print axioms proved
end Go.Proofs.Ytnbpmjfemeeecaa.fnExactCyclic
namespace Go.Proofs.Ytnbpmjfemeeecaa
theorem fnExactCyclic_holds:Rows.FnExactCyclicSaid:=fnExactCyclic.proved
end Go.Proofs.Ytnbpmjfemeeecaa
