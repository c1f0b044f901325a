/-
  NARROWER THAN 'FOR EVERY INPUT', by the rows' own cells (each row's printed sentence says how): FnExactMerge: loops · FnExactDiff: loops · FnExactPlanOK: loops.
  DERIVED. THE GIVEN ROWS OF THIS SEAT. 5 by the template 'for every input the law returns true; each argument reads behind the call as it read before'; 0 by the template 'total and deterministic' (their statements: YtlgdkbacfgjcnaaTotals.lean).
  GIVEN WITH THE SEED: the statements are not yours to turn. If you find one false, say at which input.
  Laid BY PROGRAM, IN A SANDBOX (cutbox-rows.mjs): the forced cells as the released guide's own fill.sh prints them over the translation 9faa56010bade0b0… (all of the seat's roots in one cut). By AI agents, Wed Nov 11 2026. No macro, syntax, notation, axiom, sorry.
-/
import Derived.Test.YtlgdkbacfgjcnaaChecked
import GoSem.Claim
import GoSem.ClaimJoined
import GoSem.ClaimMapViews
import Derived.JoinedTies
import Derived.KernelRfl
namespace Go.Proofs.Ytlgdkbacfgjcnaa
/- THE CELL 'sum', in the pinned program and in every row, IS THE sha256 OF THE DUMP (.gsa) THAT YtlgdkbacfgjcnaaProg.lean LOADS. Nothing in Lean hashes anything: it is a label: what it is worth is what the hold of that sum in a sandbox is worth. -/
noncomputable def Try.pinned : Pinned := { name := "ytlgdkbacfgjcnaa", sum := "9faa56010bade0b010854108e886228b0f038f512fcb8d648450ca98090efb2b", checked := Try.checked }
namespace Rows
def none {H : Type} : Left H := { results := [], args := [] }

/-- 'laws.FnExactMerge': WHATEVER THE INPUT: true; the input reads as it did. -/
def fnExactMergeSpec : ChangeSpec := { name := "fnExactMerge", fn := fun _ => fun
  | [d1, d2, d3] => { results := [.lit (.bool true)], args := [d1, d2, d3] }
  | _ => none }
def fnExactMergeRow : OpenClaim := { program := "ytlgdkbacfgjcnaa", sum := "9faa56010bade0b010854108e886228b0f038f512fcb8d648450ca98090efb2b", func := "loop.example/g00037/laws.FnExactMerge", spec := "fnExactMerge", unfollowed := true, recurses := true, loops := true, plainKeys := false, apart := false }
def FnExactMergeSaid : Prop := fnExactMergeRow.holds Try.pinned (OpenSpec.ofChange fnExactMergeSpec)

/-- ITS FALSE NEIGHBOUR: 'it returns false'. Refute it at one input. -/
def fnExactMergeWrong : ChangeSpec := { name := "fnExactMerge", fn := fun _ => fun
  | [d1, d2, d3] => { results := [.lit (.bool false)], args := [d1, d2, d3] }
  | _ => none }
def FnExactMergeWrongFalsely : Prop := fnExactMergeRow.holds Try.pinned (OpenSpec.ofChange fnExactMergeWrong)

/-- 'laws.FnExactDiff': WHATEVER THE INPUT: true; the input reads as it did. -/
def fnExactDiffSpec : ChangeSpec := { name := "fnExactDiff", fn := fun _ => fun
  | [d1, d2] => { results := [.lit (.bool true)], args := [d1, d2] }
  | _ => none }
def fnExactDiffRow : OpenClaim := { program := "ytlgdkbacfgjcnaa", sum := "9faa56010bade0b010854108e886228b0f038f512fcb8d648450ca98090efb2b", func := "loop.example/g00037/laws.FnExactDiff", spec := "fnExactDiff", unfollowed := true, recurses := true, loops := true, plainKeys := false, apart := false }
def FnExactDiffSaid : Prop := fnExactDiffRow.holds Try.pinned (OpenSpec.ofChange fnExactDiffSpec)

/-- ITS FALSE NEIGHBOUR: 'it returns false'. Refute it at one input. -/
def fnExactDiffWrong : ChangeSpec := { name := "fnExactDiff", fn := fun _ => fun
  | [d1, d2] => { results := [.lit (.bool false)], args := [d1, d2] }
  | _ => none }
def FnExactDiffWrongFalsely : Prop := fnExactDiffRow.holds Try.pinned (OpenSpec.ofChange fnExactDiffWrong)

/-- 'laws.FnExactAgOK': WHATEVER THE INPUT: true; the input reads as it did. -/
def fnExactAgOKSpec : ChangeSpec := { name := "fnExactAgOK", fn := fun _ => fun
  | [d1, d2] => { results := [.lit (.bool true)], args := [d1, d2] }
  | _ => none }
def fnExactAgOKRow : OpenClaim := { program := "ytlgdkbacfgjcnaa", sum := "9faa56010bade0b010854108e886228b0f038f512fcb8d648450ca98090efb2b", func := "loop.example/g00037/laws.FnExactAgOK", spec := "fnExactAgOK", plainKeys := false, apart := false }
def FnExactAgOKSaid : Prop := fnExactAgOKRow.holds Try.pinned (OpenSpec.ofChange fnExactAgOKSpec)

/-- ITS FALSE NEIGHBOUR: 'it returns false'. Refute it at one input. -/
def fnExactAgOKWrong : ChangeSpec := { name := "fnExactAgOK", fn := fun _ => fun
  | [d1, d2] => { results := [.lit (.bool false)], args := [d1, d2] }
  | _ => none }
def FnExactAgOKWrongFalsely : Prop := fnExactAgOKRow.holds Try.pinned (OpenSpec.ofChange fnExactAgOKWrong)

/-- 'laws.FnExactRxOK': WHATEVER THE INPUT: true; the input reads as it did. -/
def fnExactRxOKSpec : ChangeSpec := { name := "fnExactRxOK", fn := fun _ => fun
  | [d] => { results := [.lit (.bool true)], args := [d] }
  | _ => none }
def fnExactRxOKRow : OpenClaim := { program := "ytlgdkbacfgjcnaa", sum := "9faa56010bade0b010854108e886228b0f038f512fcb8d648450ca98090efb2b", func := "loop.example/g00037/laws.FnExactRxOK", spec := "fnExactRxOK", inPlace := ["internal/bytealg.IndexByteString"], unfollowed := true, recurses := true, plainKeys := false, apart := false }
def FnExactRxOKSaid : Prop := fnExactRxOKRow.holds Try.pinned (OpenSpec.ofChange fnExactRxOKSpec)

/-- ITS FALSE NEIGHBOUR: 'it returns false'. Refute it at one input. -/
def fnExactRxOKWrong : ChangeSpec := { name := "fnExactRxOK", fn := fun _ => fun
  | [d] => { results := [.lit (.bool false)], args := [d] }
  | _ => none }
def FnExactRxOKWrongFalsely : Prop := fnExactRxOKRow.holds Try.pinned (OpenSpec.ofChange fnExactRxOKWrong)

/-- 'laws.FnExactPlanOK': WHATEVER THE INPUT: true; the input reads as it did. -/
def fnExactPlanOKSpec : ChangeSpec := { name := "fnExactPlanOK", fn := fun _ => fun
  | [d1, d2] => { results := [.lit (.bool true)], args := [d1, d2] }
  | _ => none }
def fnExactPlanOKRow : OpenClaim := { program := "ytlgdkbacfgjcnaa", sum := "9faa56010bade0b010854108e886228b0f038f512fcb8d648450ca98090efb2b", func := "loop.example/g00037/laws.FnExactPlanOK", spec := "fnExactPlanOK", unfollowed := true, recurses := true, loops := true, plainKeys := false, apart := false }
def FnExactPlanOKSaid : Prop := fnExactPlanOKRow.holds Try.pinned (OpenSpec.ofChange fnExactPlanOKSpec)

/-- ITS FALSE NEIGHBOUR: 'it returns false'. Refute it at one input. -/
def fnExactPlanOKWrong : ChangeSpec := { name := "fnExactPlanOK", fn := fun _ => fun
  | [d1, d2] => { results := [.lit (.bool false)], args := [d1, d2] }
  | _ => none }
def FnExactPlanOKWrongFalsely : Prop := fnExactPlanOKRow.holds Try.pinned (OpenSpec.ofChange fnExactPlanOKWrong)

/- THE SECOND FORM. 'bulk': how many values and letters a reading holds, each counted each time it is reached (what is shared counts as often as it is met; a slice's spare places count too). A statement '..UptoSaid' is the law's where the arguments, and the package variables that the reading takes, are together of bulk at most 1048576: NARROWER than '..Said'. Prove '..Said' where nothing that the law and all that it calls make is longer than what came in: it says more and counts as full. Else prove '..UptoSaid'. A law counts once. -/
mutual
def uptoBulk {H : Type} : DataW H → Nat
  | .lit (.string bytes) => bytes.length + 1
  | .lit _ => 1
  | .nil => 1
  | .ptr d => uptoBulk d + 1
  | .slice elems spare => uptoBulkAll elems + uptoBulkAll spare + 1
  | .agg parts => uptoBulkAll parts + 1
  | .iface _ d => uptoBulk d + 1
  | .map entries => uptoBulkEntries entries + 1
  | .held _ => 1
def uptoBulkAll {H : Type} : List (DataW H) → Nat
  | [] => 0
  | d :: r => uptoBulk d + uptoBulkAll r
def uptoBulkEntries {H : Type} : List (Lit × DataW H) → Nat
  | [] => 0
  | x :: r => uptoBulkEntry x + uptoBulkEntries r
def uptoBulkEntry {H : Type} : Lit × DataW H → Nat
  | (.string bytes, d) => bytes.length + uptoBulk d + 1
  | (_, d) => uptoBulk d + 1
 end
def uptoSmall : (H : Type) → List (DataW H) → Bool := fun _ ds => decide (uptoBulkAll ds ≤ 1048576)
def OpenSpec.upto (s : _root_.Go.ChangeSpec) : _root_.Go.OpenSpec := { _root_.Go.OpenSpec.ofChange s with cond := some uptoSmall }

/-- 'laws.FnExactMerge', WHERE WHAT IT READS IS OF BULK AT MOST 1048576: true; the input reads as it did. -/
def fnExactMergeUptoRow : OpenClaim := { program := "ytlgdkbacfgjcnaa", sum := "9faa56010bade0b010854108e886228b0f038f512fcb8d648450ca98090efb2b", func := "loop.example/g00037/laws.FnExactMerge", spec := "fnExactMerge", unfollowed := true, recurses := true, loops := true, plainKeys := false, apart := false, narrowed := true }
def FnExactMergeUptoSaid : Prop := fnExactMergeUptoRow.holds Try.pinned (OpenSpec.upto fnExactMergeSpec)

/-- 'laws.FnExactDiff', WHERE WHAT IT READS IS OF BULK AT MOST 1048576: true; the input reads as it did. -/
def fnExactDiffUptoRow : OpenClaim := { program := "ytlgdkbacfgjcnaa", sum := "9faa56010bade0b010854108e886228b0f038f512fcb8d648450ca98090efb2b", func := "loop.example/g00037/laws.FnExactDiff", spec := "fnExactDiff", unfollowed := true, recurses := true, loops := true, plainKeys := false, apart := false, narrowed := true }
def FnExactDiffUptoSaid : Prop := fnExactDiffUptoRow.holds Try.pinned (OpenSpec.upto fnExactDiffSpec)

/-- 'laws.FnExactAgOK', WHERE WHAT IT READS IS OF BULK AT MOST 1048576: true; the input reads as it did. -/
def fnExactAgOKUptoRow : OpenClaim := { program := "ytlgdkbacfgjcnaa", sum := "9faa56010bade0b010854108e886228b0f038f512fcb8d648450ca98090efb2b", func := "loop.example/g00037/laws.FnExactAgOK", spec := "fnExactAgOK", plainKeys := false, apart := false, narrowed := true }
def FnExactAgOKUptoSaid : Prop := fnExactAgOKUptoRow.holds Try.pinned (OpenSpec.upto fnExactAgOKSpec)

/-- 'laws.FnExactRxOK', WHERE WHAT IT READS IS OF BULK AT MOST 1048576: true; the input reads as it did. -/
def fnExactRxOKUptoRow : OpenClaim := { program := "ytlgdkbacfgjcnaa", sum := "9faa56010bade0b010854108e886228b0f038f512fcb8d648450ca98090efb2b", func := "loop.example/g00037/laws.FnExactRxOK", spec := "fnExactRxOK", inPlace := ["internal/bytealg.IndexByteString"], unfollowed := true, recurses := true, plainKeys := false, apart := false, narrowed := true }
def FnExactRxOKUptoSaid : Prop := fnExactRxOKUptoRow.holds Try.pinned (OpenSpec.upto fnExactRxOKSpec)

/-- 'laws.FnExactPlanOK', WHERE WHAT IT READS IS OF BULK AT MOST 1048576: true; the input reads as it did. -/
def fnExactPlanOKUptoRow : OpenClaim := { program := "ytlgdkbacfgjcnaa", sum := "9faa56010bade0b010854108e886228b0f038f512fcb8d648450ca98090efb2b", func := "loop.example/g00037/laws.FnExactPlanOK", spec := "fnExactPlanOK", unfollowed := true, recurses := true, loops := true, plainKeys := false, apart := false, narrowed := true }
def FnExactPlanOKUptoSaid : Prop := fnExactPlanOKUptoRow.holds Try.pinned (OpenSpec.upto fnExactPlanOKSpec)

end Rows
end Go.Proofs.Ytlgdkbacfgjcnaa
