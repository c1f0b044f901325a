/- The law FnExactConstants answers true and changes nothing, without any condition: it takes no argument. -/
import Derived.Test.YtlaalinfmhiehaaRows
import Derived.WalkKit
import Derived.ProofKit
import Derived.OpenShut
import Derived.ShutString
import Derived.ChangeOld
import Derived.Below
import Derived.SizedLaws
import Derived.Tactics
namespace Go.Proofs.Ytlaalinfmhiehaa.fnExactConstants
open Go.ChangeShapes Go.WideShapes Go.ChangeAt Go.RowKit
set_option linter.unusedVariables false

/-- What is left of a body once the tests that are plainly false stand away. -/
def chase : Code → Code
  | .seq (.cond (.const (.bool false)) _ .skip) y => chase y
  | c => c

theorem chase_ok {P : Program} {Q : Exit → Act → World → Prop} {a : Act} {w : World} (c : Code) :
    (chase c).wp P Q a w → c.wp P Q a w := by
  fun_induction chase c with
  | case1 x y ih => exact fun h => wp_seq (wp_cond_false rfl (wp_skip (ih h)))
  | case2 => exact fun h => h

def tail : Code := .seq (.region 140 #[{ dst := some 0, op := .assign (.const (.bool true)), type := 4, pos := "exact.go:4663", after := #[], guard := none }] false) .ret
def top (c : Code) : Code := .seq (.region 0 #[{ dst := some 0, op := .assign (.const (.bool false)), type := 4, pos := "exact.go:4245", after := #[], guard := none }] false) c
def rest : Code → Code
  | .seq _ y => y
  | c => c
noncomputable def body : Code := (Try.f3.body).getD .skip

theorem body_eq : Try.f3.body = some body := by kernel_rfl
theorem body_top : body = top (rest body) := by kernel_rfl
theorem body_tail : chase (rest body) = tail := by kernel_rfl
theorem ntmps : Try.f3.ntmps = 1 := by kernel_rfl
theorem outs : Try.f3.results = #[.tmp 0] := by kernel_rfl

theorem walk (w : World) : Calls Try.prog 3 #[] w fun e w' => e = .returned (.bool true) ∧ Below w.heap.size w w' := by
  refine calls_of_wp Try.func3 body_eq ?_
  rw [body_top]
  refine wp_seq (wp_region_list (wpList_plain rfl fun K hK => ?_))
  simp only [go_sem]
  refine hK _ _ (wpList_nil ?_)
  simp only [Exit.then]
  apply chase_ok
  rw [body_tail]
  refine wp_seq (wp_region_list (wpList_plain rfl fun K hK => ?_))
  simp only [go_sem]
  refine hK _ _ (wpList_nil (wp_ret (bodyPost_ret (results_tmp outs ..) rfl ⟨?_, .refl ..⟩)))
  simp [go_sem]

theorem own : ownKnob Try.prog.godebug = none := by kernel_rfl

set_option maxRecDepth 100000 in
theorem lifted (os : Os) (started : os.Started) (H : Type) (enc : TypeId × Value → H) :
    ReturnsInHanded {} Try.checked os 3 .any (Rows.fnExactConstantsSpec.pre6 enc Try.prog Try.f3 Rows.fnExactConstantsRow.domain false) (Rows.fnExactConstantsSpec.post enc Try.prog Try.f3 false true false false) := by
  refine returnsInHanded_of_change_sized (C := Try.checked) own started (by kernel_rfl) Try.func3
    (ChangeSpec.witness6 (enc := enc) (C := Try.checked) false ⟨#[], #[], []⟩ 8 (by kernel_rfl) (by kernel_rfl) (by kernel_rfl) (by kernel_rfl)) ?_
  intro W base args ds gs before hval0 hW hcnd hsz0 _
  have hW' := hW
  obtain ⟨p, q, hA0, hV, rfl, hfz, hnd⟩ := hW
  have hA : DataW.TrodAll enc Try.prog W 0 (fun _ => true) true Try.f3.params.toList args.toList ds p := hA0
  rw [Try.params3] at hA
  obtain ⟨hargs, rfl, rfl⟩ := trodAll_none hA
  obtain ⟨rfl, rfl⟩ := trodVars_none hV
  subst hargs
  clear hA0 hval0 hsz0
  refine (walk W).mono fun e W' ⟨he, bel⟩ => ?_
  subst he
  exact ⟨_, rfl, _, _, _, [], _, [], hW', trodAll_mk1 (shut_bool Try.underlying4 _), trodAll_mk0, rfl, bel.frame _, fun h => by cases h⟩

theorem over : Rows.fnExactConstantsRow.holds Try.pinned (OpenSpec.ofChange Rows.fnExactConstantsSpec) :=
  OpenClaim.holds_of_wide 3 Try.f3 rfl rfl rfl rfl rfl rfl rfl ⟨rfl, rfl, rfl, rfl, rfl⟩ rfl rfl rfl rfl rfl (by kernel_rfl) Try.func3 (by kernel_rfl)
    (of_decide_eq_true (by kernel_rfl)) (by unfold Func.isWrapper; first | (rw [if_pos (by decide +kernel)]; kernel_rfl) | (rw [if_neg (by decide +kernel)]; exact ⟨rfl, rfl⟩))
    (fun os started H enc _ => lifted os started H enc)

theorem proved : Rows.FnExactConstantsSaid := over
#print axioms proved
end Go.Proofs.Ytlaalinfmhiehaa.fnExactConstants
namespace Go.Proofs.Ytlaalinfmhiehaa
/-- The row, under a short name, for the claim. -/
theorem fnExactConstants_holds : Rows.FnExactConstantsSaid := fnExactConstants.proved
end Go.Proofs.Ytlaalinfmhiehaa
