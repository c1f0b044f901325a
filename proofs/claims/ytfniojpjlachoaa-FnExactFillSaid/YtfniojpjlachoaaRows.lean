/-
  NARROWER THAN 'FOR EVERY INPUT', by the rows' own cells (each row's printed sentence says how): FnExactFill: loops · FnExactPatch: loops · FnExactPlanOK: loops · FnExactMerge: loops · FnExactDiff: loops.
  DERIVED. THE GIVEN ROWS OF THIS SEAT. 11 by the template 'for every input the law returns true; each argument reads behind the call as it read before'; 0 by the template 'total and deterministic' (their statements: YtfniojpjlachoaaTotals.lean).
  GIVEN WITH THE SEED: the statements are not yours to turn. If you find one false, say at which input.
  Laid BY PROGRAM, IN A SANDBOX (cutbox-rows.mjs): the forced cells as the released guide's own fill.sh prints them over the translation 282472002a772731… (all of the seat's roots in one cut). By AI agents, Wed Nov 11 2026. No macro, syntax, notation, axiom, sorry.
-/
import Derived.Test.YtfniojpjlachoaaChecked
import GoSem.Claim
import GoSem.ClaimJoined
import GoSem.ClaimMapViews
import Derived.JoinedTies
import Derived.KernelRfl
namespace Go.Proofs.Ytfniojpjlachoaa
/- THE CELL 'sum', in the pinned program and in every row, IS THE sha256 OF THE DUMP (.gsa) THAT YtfniojpjlachoaaProg.lean LOADS. Nothing in Lean hashes anything: it is a label: what it is worth is what the hold of that sum in a sandbox is worth. -/
noncomputable def Try.pinned : Pinned := { name := "ytfniojpjlachoaa", sum := "282472002a7727318331feb987c393f0d4bc4da8d20a6d74b5c4c6f2ef7e1bdd", checked := Try.checked }
namespace Rows
def none {H : Type} : Left H := { results := [], args := [] }

/-- 'laws.FnExactRxOK': WHATEVER THE INPUT: true; the input reads as it did. -/
def fnExactRxOKSpec : ChangeSpec := { name := "fnExactRxOK", fn := fun _ => fun
  | [d] => { results := [.lit (.bool true)], args := [d] }
  | _ => none }
def fnExactRxOKRow : OpenClaim := { program := "ytfniojpjlachoaa", sum := "282472002a7727318331feb987c393f0d4bc4da8d20a6d74b5c4c6f2ef7e1bdd", func := "loop.example/g00037/laws.FnExactRxOK", spec := "fnExactRxOK", inPlace := ["internal/bytealg.IndexByteString"], unfollowed := true, recurses := true, plainKeys := false, apart := false }
def FnExactRxOKSaid : Prop := fnExactRxOKRow.holds Try.pinned (OpenSpec.ofChange fnExactRxOKSpec)

/-- ITS FALSE NEIGHBOUR: 'it returns false'. Refute it at one input. -/
def fnExactRxOKWrong : ChangeSpec := { name := "fnExactRxOK", fn := fun _ => fun
  | [d] => { results := [.lit (.bool false)], args := [d] }
  | _ => none }
def FnExactRxOKWrongFalsely : Prop := fnExactRxOKRow.holds Try.pinned (OpenSpec.ofChange fnExactRxOKWrong)

/-- 'laws.FnExactBnfOK': WHATEVER THE INPUT: true; the input reads as it did. -/
def fnExactBnfOKSpec : ChangeSpec := { name := "fnExactBnfOK", fn := fun _ => fun
  | [d] => { results := [.lit (.bool true)], args := [d] }
  | _ => none }
def fnExactBnfOKRow : OpenClaim := { program := "ytfniojpjlachoaa", sum := "282472002a7727318331feb987c393f0d4bc4da8d20a6d74b5c4c6f2ef7e1bdd", func := "loop.example/g00037/laws.FnExactBnfOK", spec := "fnExactBnfOK", plainKeys := false, apart := false }
def FnExactBnfOKSaid : Prop := fnExactBnfOKRow.holds Try.pinned (OpenSpec.ofChange fnExactBnfOKSpec)

/-- ITS FALSE NEIGHBOUR: 'it returns false'. Refute it at one input. -/
def fnExactBnfOKWrong : ChangeSpec := { name := "fnExactBnfOK", fn := fun _ => fun
  | [d] => { results := [.lit (.bool false)], args := [d] }
  | _ => none }
def FnExactBnfOKWrongFalsely : Prop := fnExactBnfOKRow.holds Try.pinned (OpenSpec.ofChange fnExactBnfOKWrong)

/-- 'laws.FnExactResolve': WHATEVER THE INPUT: true; the input reads as it did. -/
def fnExactResolveSpec : ChangeSpec := { name := "fnExactResolve", fn := fun _ => fun
  | [d1, d2] => { results := [.lit (.bool true)], args := [d1, d2] }
  | _ => none }
def fnExactResolveRow : OpenClaim := { program := "ytfniojpjlachoaa", sum := "282472002a7727318331feb987c393f0d4bc4da8d20a6d74b5c4c6f2ef7e1bdd", func := "loop.example/g00037/laws.FnExactResolve", spec := "fnExactResolve", unfollowed := true, recurses := true, plainKeys := false, apart := false }
def FnExactResolveSaid : Prop := fnExactResolveRow.holds Try.pinned (OpenSpec.ofChange fnExactResolveSpec)

/-- ITS FALSE NEIGHBOUR: 'it returns false'. Refute it at one input. -/
def fnExactResolveWrong : ChangeSpec := { name := "fnExactResolve", fn := fun _ => fun
  | [d1, d2] => { results := [.lit (.bool false)], args := [d1, d2] }
  | _ => none }
def FnExactResolveWrongFalsely : Prop := fnExactResolveRow.holds Try.pinned (OpenSpec.ofChange fnExactResolveWrong)

/-- 'laws.FnExactUnused': WHATEVER THE INPUT: true; the input reads as it did. -/
def fnExactUnusedSpec : ChangeSpec := { name := "fnExactUnused", fn := fun _ => fun
  | [d] => { results := [.lit (.bool true)], args := [d] }
  | _ => none }
def fnExactUnusedRow : OpenClaim := { program := "ytfniojpjlachoaa", sum := "282472002a7727318331feb987c393f0d4bc4da8d20a6d74b5c4c6f2ef7e1bdd", func := "loop.example/g00037/laws.FnExactUnused", spec := "fnExactUnused", unfollowed := true, recurses := true, plainKeys := false, apart := false }
def FnExactUnusedSaid : Prop := fnExactUnusedRow.holds Try.pinned (OpenSpec.ofChange fnExactUnusedSpec)

/-- ITS FALSE NEIGHBOUR: 'it returns false'. Refute it at one input. -/
def fnExactUnusedWrong : ChangeSpec := { name := "fnExactUnused", fn := fun _ => fun
  | [d] => { results := [.lit (.bool false)], args := [d] }
  | _ => none }
def FnExactUnusedWrongFalsely : Prop := fnExactUnusedRow.holds Try.pinned (OpenSpec.ofChange fnExactUnusedWrong)

/-- 'laws.FnExactFill': WHATEVER THE INPUT: true; the input reads as it did. -/
def fnExactFillSpec : ChangeSpec := { name := "fnExactFill", fn := fun _ => fun
  | [d1, d2] => { results := [.lit (.bool true)], args := [d1, d2] }
  | _ => none }
def fnExactFillRow : OpenClaim := { program := "ytfniojpjlachoaa", sum := "282472002a7727318331feb987c393f0d4bc4da8d20a6d74b5c4c6f2ef7e1bdd", func := "loop.example/g00037/laws.FnExactFill", spec := "fnExactFill", recurses := true, loops := true, plainKeys := false, apart := false }
def FnExactFillSaid : Prop := fnExactFillRow.holds Try.pinned (OpenSpec.ofChange fnExactFillSpec)

/-- ITS FALSE NEIGHBOUR: 'it returns false'. Refute it at one input. -/
def fnExactFillWrong : ChangeSpec := { name := "fnExactFill", fn := fun _ => fun
  | [d1, d2] => { results := [.lit (.bool false)], args := [d1, d2] }
  | _ => none }
def FnExactFillWrongFalsely : Prop := fnExactFillRow.holds Try.pinned (OpenSpec.ofChange fnExactFillWrong)

/-- 'laws.FnExactPatch': WHATEVER THE INPUT: true; the input reads as it did. -/
def fnExactPatchSpec : ChangeSpec := { name := "fnExactPatch", fn := fun _ => fun
  | [d1, d2] => { results := [.lit (.bool true)], args := [d1, d2] }
  | _ => none }
def fnExactPatchRow : OpenClaim := { program := "ytfniojpjlachoaa", sum := "282472002a7727318331feb987c393f0d4bc4da8d20a6d74b5c4c6f2ef7e1bdd", func := "loop.example/g00037/laws.FnExactPatch", spec := "fnExactPatch", recurses := true, loops := true, plainKeys := false, apart := false }
def FnExactPatchSaid : Prop := fnExactPatchRow.holds Try.pinned (OpenSpec.ofChange fnExactPatchSpec)

/-- ITS FALSE NEIGHBOUR: 'it returns false'. Refute it at one input. -/
def fnExactPatchWrong : ChangeSpec := { name := "fnExactPatch", fn := fun _ => fun
  | [d1, d2] => { results := [.lit (.bool false)], args := [d1, d2] }
  | _ => none }
def FnExactPatchWrongFalsely : Prop := fnExactPatchRow.holds Try.pinned (OpenSpec.ofChange fnExactPatchWrong)

/-- 'laws.FnExactRename': WHATEVER THE INPUT: true; the input reads as it did. -/
def fnExactRenameSpec : ChangeSpec := { name := "fnExactRename", fn := fun _ => fun
  | [d1, d2, d3] => { results := [.lit (.bool true)], args := [d1, d2, d3] }
  | _ => none }
def fnExactRenameRow : OpenClaim := { program := "ytfniojpjlachoaa", sum := "282472002a7727318331feb987c393f0d4bc4da8d20a6d74b5c4c6f2ef7e1bdd", func := "loop.example/g00037/laws.FnExactRename", spec := "fnExactRename", unfollowed := true, recurses := true, plainKeys := false, apart := false }
def FnExactRenameSaid : Prop := fnExactRenameRow.holds Try.pinned (OpenSpec.ofChange fnExactRenameSpec)

/-- ITS FALSE NEIGHBOUR: 'it returns false'. Refute it at one input. -/
def fnExactRenameWrong : ChangeSpec := { name := "fnExactRename", fn := fun _ => fun
  | [d1, d2, d3] => { results := [.lit (.bool false)], args := [d1, d2, d3] }
  | _ => none }
def FnExactRenameWrongFalsely : Prop := fnExactRenameRow.holds Try.pinned (OpenSpec.ofChange fnExactRenameWrong)

/-- 'laws.FnExactPlanOK': WHATEVER THE INPUT: true; the input reads as it did. -/
def fnExactPlanOKSpec : ChangeSpec := { name := "fnExactPlanOK", fn := fun _ => fun
  | [d1, d2] => { results := [.lit (.bool true)], args := [d1, d2] }
  | _ => none }
def fnExactPlanOKRow : OpenClaim := { program := "ytfniojpjlachoaa", sum := "282472002a7727318331feb987c393f0d4bc4da8d20a6d74b5c4c6f2ef7e1bdd", func := "loop.example/g00037/laws.FnExactPlanOK", spec := "fnExactPlanOK", unfollowed := true, recurses := true, loops := true, plainKeys := false, apart := false }
def FnExactPlanOKSaid : Prop := fnExactPlanOKRow.holds Try.pinned (OpenSpec.ofChange fnExactPlanOKSpec)

/-- ITS FALSE NEIGHBOUR: 'it returns false'. Refute it at one input. -/
def fnExactPlanOKWrong : ChangeSpec := { name := "fnExactPlanOK", fn := fun _ => fun
  | [d1, d2] => { results := [.lit (.bool false)], args := [d1, d2] }
  | _ => none }
def FnExactPlanOKWrongFalsely : Prop := fnExactPlanOKRow.holds Try.pinned (OpenSpec.ofChange fnExactPlanOKWrong)

/-- 'laws.FnExactMerge': WHATEVER THE INPUT: true; the input reads as it did. -/
def fnExactMergeSpec : ChangeSpec := { name := "fnExactMerge", fn := fun _ => fun
  | [d1, d2, d3] => { results := [.lit (.bool true)], args := [d1, d2, d3] }
  | _ => none }
def fnExactMergeRow : OpenClaim := { program := "ytfniojpjlachoaa", sum := "282472002a7727318331feb987c393f0d4bc4da8d20a6d74b5c4c6f2ef7e1bdd", func := "loop.example/g00037/laws.FnExactMerge", spec := "fnExactMerge", unfollowed := true, recurses := true, loops := true, plainKeys := false, apart := false }
def FnExactMergeSaid : Prop := fnExactMergeRow.holds Try.pinned (OpenSpec.ofChange fnExactMergeSpec)

/-- ITS FALSE NEIGHBOUR: 'it returns false'. Refute it at one input. -/
def fnExactMergeWrong : ChangeSpec := { name := "fnExactMerge", fn := fun _ => fun
  | [d1, d2, d3] => { results := [.lit (.bool false)], args := [d1, d2, d3] }
  | _ => none }
def FnExactMergeWrongFalsely : Prop := fnExactMergeRow.holds Try.pinned (OpenSpec.ofChange fnExactMergeWrong)

/-- 'laws.FnExactDiff': WHATEVER THE INPUT: true; the input reads as it did. -/
def fnExactDiffSpec : ChangeSpec := { name := "fnExactDiff", fn := fun _ => fun
  | [d1, d2] => { results := [.lit (.bool true)], args := [d1, d2] }
  | _ => none }
def fnExactDiffRow : OpenClaim := { program := "ytfniojpjlachoaa", sum := "282472002a7727318331feb987c393f0d4bc4da8d20a6d74b5c4c6f2ef7e1bdd", func := "loop.example/g00037/laws.FnExactDiff", spec := "fnExactDiff", unfollowed := true, recurses := true, loops := true, plainKeys := false, apart := false }
def FnExactDiffSaid : Prop := fnExactDiffRow.holds Try.pinned (OpenSpec.ofChange fnExactDiffSpec)

/-- ITS FALSE NEIGHBOUR: 'it returns false'. Refute it at one input. -/
def fnExactDiffWrong : ChangeSpec := { name := "fnExactDiff", fn := fun _ => fun
  | [d1, d2] => { results := [.lit (.bool false)], args := [d1, d2] }
  | _ => none }
def FnExactDiffWrongFalsely : Prop := fnExactDiffRow.holds Try.pinned (OpenSpec.ofChange fnExactDiffWrong)

/-- 'laws.FnExactTableOK': WHATEVER THE INPUT: true; the input reads as it did. -/
def fnExactTableOKSpec : ChangeSpec := { name := "fnExactTableOK", fn := fun _ => fun
  | [d1, d2] => { results := [.lit (.bool true)], args := [d1, d2] }
  | _ => none }
def fnExactTableOKRow : OpenClaim := { program := "ytfniojpjlachoaa", sum := "282472002a7727318331feb987c393f0d4bc4da8d20a6d74b5c4c6f2ef7e1bdd", func := "loop.example/g00037/laws.FnExactTableOK", spec := "fnExactTableOK", plainKeys := false, apart := false }
def FnExactTableOKSaid : Prop := fnExactTableOKRow.holds Try.pinned (OpenSpec.ofChange fnExactTableOKSpec)

/-- ITS FALSE NEIGHBOUR: 'it returns false'. Refute it at one input. -/
def fnExactTableOKWrong : ChangeSpec := { name := "fnExactTableOK", fn := fun _ => fun
  | [d1, d2] => { results := [.lit (.bool false)], args := [d1, d2] }
  | _ => none }
def FnExactTableOKWrongFalsely : Prop := fnExactTableOKRow.holds Try.pinned (OpenSpec.ofChange fnExactTableOKWrong)

/- THE SECOND FORM. 'bulk': how many values and letters a reading holds, each counted each time it is reached (what is shared counts as often as it is met; a slice's spare places count too). A statement '..UptoSaid' is the law's where the arguments, and the package variables that the reading takes, are together of bulk at most 1048576: NARROWER than '..Said'. Prove '..Said' where nothing that the law and all that it calls make is longer than what came in: it says more and counts as full. Else prove '..UptoSaid'. A law counts once. -/
mutual
def uptoBulk {H : Type} : DataW H → Nat
  | .lit (.string bytes) => bytes.length + 1
  | .lit _ => 1
  | .nil => 1
  | .ptr d => uptoBulk d + 1
  | .slice elems spare => uptoBulkAll elems + uptoBulkAll spare + 1
  | .agg parts => uptoBulkAll parts + 1
  | .iface _ d => uptoBulk d + 1
  | .map entries => uptoBulkEntries entries + 1
  | .held _ => 1
def uptoBulkAll {H : Type} : List (DataW H) → Nat
  | [] => 0
  | d :: r => uptoBulk d + uptoBulkAll r
def uptoBulkEntries {H : Type} : List (Lit × DataW H) → Nat
  | [] => 0
  | x :: r => uptoBulkEntry x + uptoBulkEntries r
def uptoBulkEntry {H : Type} : Lit × DataW H → Nat
  | (.string bytes, d) => bytes.length + uptoBulk d + 1
  | (_, d) => uptoBulk d + 1
 end
def uptoSmall : (H : Type) → List (DataW H) → Bool := fun _ ds => decide (uptoBulkAll ds ≤ 1048576)
def OpenSpec.upto (s : _root_.Go.ChangeSpec) : _root_.Go.OpenSpec := { _root_.Go.OpenSpec.ofChange s with cond := some uptoSmall }

/-- 'laws.FnExactRxOK', WHERE WHAT IT READS IS OF BULK AT MOST 1048576: true; the input reads as it did. -/
def fnExactRxOKUptoRow : OpenClaim := { program := "ytfniojpjlachoaa", sum := "282472002a7727318331feb987c393f0d4bc4da8d20a6d74b5c4c6f2ef7e1bdd", func := "loop.example/g00037/laws.FnExactRxOK", spec := "fnExactRxOK", inPlace := ["internal/bytealg.IndexByteString"], unfollowed := true, recurses := true, plainKeys := false, apart := false, narrowed := true }
def FnExactRxOKUptoSaid : Prop := fnExactRxOKUptoRow.holds Try.pinned (OpenSpec.upto fnExactRxOKSpec)

/-- 'laws.FnExactBnfOK', WHERE WHAT IT READS IS OF BULK AT MOST 1048576: true; the input reads as it did. -/
def fnExactBnfOKUptoRow : OpenClaim := { program := "ytfniojpjlachoaa", sum := "282472002a7727318331feb987c393f0d4bc4da8d20a6d74b5c4c6f2ef7e1bdd", func := "loop.example/g00037/laws.FnExactBnfOK", spec := "fnExactBnfOK", plainKeys := false, apart := false, narrowed := true }
def FnExactBnfOKUptoSaid : Prop := fnExactBnfOKUptoRow.holds Try.pinned (OpenSpec.upto fnExactBnfOKSpec)

/-- 'laws.FnExactResolve', WHERE WHAT IT READS IS OF BULK AT MOST 1048576: true; the input reads as it did. -/
def fnExactResolveUptoRow : OpenClaim := { program := "ytfniojpjlachoaa", sum := "282472002a7727318331feb987c393f0d4bc4da8d20a6d74b5c4c6f2ef7e1bdd", func := "loop.example/g00037/laws.FnExactResolve", spec := "fnExactResolve", unfollowed := true, recurses := true, plainKeys := false, apart := false, narrowed := true }
def FnExactResolveUptoSaid : Prop := fnExactResolveUptoRow.holds Try.pinned (OpenSpec.upto fnExactResolveSpec)

/-- 'laws.FnExactUnused', WHERE WHAT IT READS IS OF BULK AT MOST 1048576: true; the input reads as it did. -/
def fnExactUnusedUptoRow : OpenClaim := { program := "ytfniojpjlachoaa", sum := "282472002a7727318331feb987c393f0d4bc4da8d20a6d74b5c4c6f2ef7e1bdd", func := "loop.example/g00037/laws.FnExactUnused", spec := "fnExactUnused", unfollowed := true, recurses := true, plainKeys := false, apart := false, narrowed := true }
def FnExactUnusedUptoSaid : Prop := fnExactUnusedUptoRow.holds Try.pinned (OpenSpec.upto fnExactUnusedSpec)

/-- 'laws.FnExactFill', WHERE WHAT IT READS IS OF BULK AT MOST 1048576: true; the input reads as it did. -/
def fnExactFillUptoRow : OpenClaim := { program := "ytfniojpjlachoaa", sum := "282472002a7727318331feb987c393f0d4bc4da8d20a6d74b5c4c6f2ef7e1bdd", func := "loop.example/g00037/laws.FnExactFill", spec := "fnExactFill", recurses := true, loops := true, plainKeys := false, apart := false, narrowed := true }
def FnExactFillUptoSaid : Prop := fnExactFillUptoRow.holds Try.pinned (OpenSpec.upto fnExactFillSpec)

/-- 'laws.FnExactPatch', WHERE WHAT IT READS IS OF BULK AT MOST 1048576: true; the input reads as it did. -/
def fnExactPatchUptoRow : OpenClaim := { program := "ytfniojpjlachoaa", sum := "282472002a7727318331feb987c393f0d4bc4da8d20a6d74b5c4c6f2ef7e1bdd", func := "loop.example/g00037/laws.FnExactPatch", spec := "fnExactPatch", recurses := true, loops := true, plainKeys := false, apart := false, narrowed := true }
def FnExactPatchUptoSaid : Prop := fnExactPatchUptoRow.holds Try.pinned (OpenSpec.upto fnExactPatchSpec)

/-- 'laws.FnExactRename', WHERE WHAT IT READS IS OF BULK AT MOST 1048576: true; the input reads as it did. -/
def fnExactRenameUptoRow : OpenClaim := { program := "ytfniojpjlachoaa", sum := "282472002a7727318331feb987c393f0d4bc4da8d20a6d74b5c4c6f2ef7e1bdd", func := "loop.example/g00037/laws.FnExactRename", spec := "fnExactRename", unfollowed := true, recurses := true, plainKeys := false, apart := false, narrowed := true }
def FnExactRenameUptoSaid : Prop := fnExactRenameUptoRow.holds Try.pinned (OpenSpec.upto fnExactRenameSpec)

/-- 'laws.FnExactPlanOK', WHERE WHAT IT READS IS OF BULK AT MOST 1048576: true; the input reads as it did. -/
def fnExactPlanOKUptoRow : OpenClaim := { program := "ytfniojpjlachoaa", sum := "282472002a7727318331feb987c393f0d4bc4da8d20a6d74b5c4c6f2ef7e1bdd", func := "loop.example/g00037/laws.FnExactPlanOK", spec := "fnExactPlanOK", unfollowed := true, recurses := true, loops := true, plainKeys := false, apart := false, narrowed := true }
def FnExactPlanOKUptoSaid : Prop := fnExactPlanOKUptoRow.holds Try.pinned (OpenSpec.upto fnExactPlanOKSpec)

/-- 'laws.FnExactMerge', WHERE WHAT IT READS IS OF BULK AT MOST 1048576: true; the input reads as it did. -/
def fnExactMergeUptoRow : OpenClaim := { program := "ytfniojpjlachoaa", sum := "282472002a7727318331feb987c393f0d4bc4da8d20a6d74b5c4c6f2ef7e1bdd", func := "loop.example/g00037/laws.FnExactMerge", spec := "fnExactMerge", unfollowed := true, recurses := true, loops := true, plainKeys := false, apart := false, narrowed := true }
def FnExactMergeUptoSaid : Prop := fnExactMergeUptoRow.holds Try.pinned (OpenSpec.upto fnExactMergeSpec)

/-- 'laws.FnExactDiff', WHERE WHAT IT READS IS OF BULK AT MOST 1048576: true; the input reads as it did. -/
def fnExactDiffUptoRow : OpenClaim := { program := "ytfniojpjlachoaa", sum := "282472002a7727318331feb987c393f0d4bc4da8d20a6d74b5c4c6f2ef7e1bdd", func := "loop.example/g00037/laws.FnExactDiff", spec := "fnExactDiff", unfollowed := true, recurses := true, loops := true, plainKeys := false, apart := false, narrowed := true }
def FnExactDiffUptoSaid : Prop := fnExactDiffUptoRow.holds Try.pinned (OpenSpec.upto fnExactDiffSpec)

/-- 'laws.FnExactTableOK', WHERE WHAT IT READS IS OF BULK AT MOST 1048576: true; the input reads as it did. -/
def fnExactTableOKUptoRow : OpenClaim := { program := "ytfniojpjlachoaa", sum := "282472002a7727318331feb987c393f0d4bc4da8d20a6d74b5c4c6f2ef7e1bdd", func := "loop.example/g00037/laws.FnExactTableOK", spec := "fnExactTableOK", plainKeys := false, apart := false, narrowed := true }
def FnExactTableOKUptoSaid : Prop := fnExactTableOKUptoRow.holds Try.pinned (OpenSpec.upto fnExactTableOKSpec)

end Rows
end Go.Proofs.Ytfniojpjlachoaa
