/-
  NARROWER THAN 'FOR EVERY INPUT', by the rows' own cells (each row's printed sentence says how): FnExactTreeOK: loops · FnExactTreeSize: loops · FnExactTreeYield: loops · FnExactTermOK: loops · FnExactTreeAt: loops · FnExactTreePut: loops.
  DERIVED. THE GIVEN ROWS OF THIS SEAT. 12 by the template 'for every input the law returns true; each argument reads behind the call as it read before'; 0 by the template 'total and deterministic' (their statements: YtlaalinfmhiehaaTotals.lean).
  GIVEN WITH THE SEED: the statements are not yours to turn. If you find one false, say at which input.
  Laid BY PROGRAM, IN A SANDBOX (cutbox-rows.mjs): the forced cells as the released guide's own fill.sh prints them over the translation 5da598a89241c454… (all of the seat's roots in one cut). By AI agents, Wed Nov 11 2026. No macro, syntax, notation, axiom, sorry.
-/
import Derived.Test.YtlaalinfmhiehaaChecked
import GoSem.Claim
import GoSem.ClaimJoined
import GoSem.ClaimMapViews
import Derived.JoinedTies
import Derived.KernelRfl
namespace Go.Proofs.Ytlaalinfmhiehaa
/- THE CELL 'sum', in the pinned program and in every row, IS THE sha256 OF THE DUMP (.gsa) THAT YtlaalinfmhiehaaProg.lean LOADS. Nothing in Lean hashes anything: it is a label: what it is worth is what the hold of that sum in a sandbox is worth. -/
noncomputable def Try.pinned : Pinned := { name := "ytlaalinfmhiehaa", sum := "5da598a89241c454572a7de9e7098ace304d44a3907e5083d78e89f65b35c43c", checked := Try.checked }
namespace Rows
def none {H : Type} : Left H := { results := [], args := [] }

/-- 'laws.FnExactConstants': WHATEVER THE INPUT: true; the input reads as it did. -/
def fnExactConstantsSpec : ChangeSpec := { name := "fnExactConstants", fn := fun _ => fun
  | [] => { results := [.lit (.bool true)], args := [] }
  | _ => none }
def fnExactConstantsRow : OpenClaim := { program := "ytlaalinfmhiehaa", sum := "5da598a89241c454572a7de9e7098ace304d44a3907e5083d78e89f65b35c43c", func := "loop.example/g00037/laws.FnExactConstants", spec := "fnExactConstants", apart := false }
def FnExactConstantsSaid : Prop := fnExactConstantsRow.holds Try.pinned (OpenSpec.ofChange fnExactConstantsSpec)

/-- ITS FALSE NEIGHBOUR: 'it returns false'. Refute it at one input. -/
def fnExactConstantsWrong : ChangeSpec := { name := "fnExactConstants", fn := fun _ => fun
  | [] => { results := [.lit (.bool false)], args := [] }
  | _ => none }
def FnExactConstantsWrongFalsely : Prop := fnExactConstantsRow.holds Try.pinned (OpenSpec.ofChange fnExactConstantsWrong)

/-- 'laws.FnExactEdited': WHATEVER THE INPUT: true; the input reads as it did. -/
def fnExactEditedSpec : ChangeSpec := { name := "fnExactEdited", fn := fun _ => fun
  | [d1, d2] => { results := [.lit (.bool true)], args := [d1, d2] }
  | _ => none }
def fnExactEditedRow : OpenClaim := { program := "ytlaalinfmhiehaa", sum := "5da598a89241c454572a7de9e7098ace304d44a3907e5083d78e89f65b35c43c", func := "loop.example/g00037/laws.FnExactEdited", spec := "fnExactEdited", apart := false }
def FnExactEditedSaid : Prop := fnExactEditedRow.holds Try.pinned (OpenSpec.ofChange fnExactEditedSpec)

/-- ITS FALSE NEIGHBOUR: 'it returns false'. Refute it at one input. -/
def fnExactEditedWrong : ChangeSpec := { name := "fnExactEdited", fn := fun _ => fun
  | [d1, d2] => { results := [.lit (.bool false)], args := [d1, d2] }
  | _ => none }
def FnExactEditedWrongFalsely : Prop := fnExactEditedRow.holds Try.pinned (OpenSpec.ofChange fnExactEditedWrong)

/-- 'laws.FnExactApply': WHATEVER THE INPUT: true; the input reads as it did. -/
def fnExactApplySpec : ChangeSpec := { name := "fnExactApply", fn := fun _ => fun
  | [d1, d2] => { results := [.lit (.bool true)], args := [d1, d2] }
  | _ => none }
def fnExactApplyRow : OpenClaim := { program := "ytlaalinfmhiehaa", sum := "5da598a89241c454572a7de9e7098ace304d44a3907e5083d78e89f65b35c43c", func := "loop.example/g00037/laws.FnExactApply", spec := "fnExactApply", apart := false }
def FnExactApplySaid : Prop := fnExactApplyRow.holds Try.pinned (OpenSpec.ofChange fnExactApplySpec)

/-- ITS FALSE NEIGHBOUR: 'it returns false'. Refute it at one input. -/
def fnExactApplyWrong : ChangeSpec := { name := "fnExactApply", fn := fun _ => fun
  | [d1, d2] => { results := [.lit (.bool false)], args := [d1, d2] }
  | _ => none }
def FnExactApplyWrongFalsely : Prop := fnExactApplyRow.holds Try.pinned (OpenSpec.ofChange fnExactApplyWrong)

/-- 'laws.FnExactTreeOK': WHATEVER THE INPUT: true; the input reads as it did. -/
def fnExactTreeOKSpec : ChangeSpec := { name := "fnExactTreeOK", fn := fun _ => fun
  | [d] => { results := [.lit (.bool true)], args := [d] }
  | _ => none }
def fnExactTreeOKRow : OpenClaim := { program := "ytlaalinfmhiehaa", sum := "5da598a89241c454572a7de9e7098ace304d44a3907e5083d78e89f65b35c43c", func := "loop.example/g00037/laws.FnExactTreeOK", spec := "fnExactTreeOK", recurses := true, loops := true, apart := false }
def FnExactTreeOKSaid : Prop := fnExactTreeOKRow.holds Try.pinned (OpenSpec.ofChange fnExactTreeOKSpec)

/-- ITS FALSE NEIGHBOUR: 'it returns false'. Refute it at one input. -/
def fnExactTreeOKWrong : ChangeSpec := { name := "fnExactTreeOK", fn := fun _ => fun
  | [d] => { results := [.lit (.bool false)], args := [d] }
  | _ => none }
def FnExactTreeOKWrongFalsely : Prop := fnExactTreeOKRow.holds Try.pinned (OpenSpec.ofChange fnExactTreeOKWrong)

/-- 'laws.FnExactTreeSize': WHATEVER THE INPUT: true; the input reads as it did. -/
def fnExactTreeSizeSpec : ChangeSpec := { name := "fnExactTreeSize", fn := fun _ => fun
  | [d] => { results := [.lit (.bool true)], args := [d] }
  | _ => none }
def fnExactTreeSizeRow : OpenClaim := { program := "ytlaalinfmhiehaa", sum := "5da598a89241c454572a7de9e7098ace304d44a3907e5083d78e89f65b35c43c", func := "loop.example/g00037/laws.FnExactTreeSize", spec := "fnExactTreeSize", recurses := true, loops := true, apart := false }
def FnExactTreeSizeSaid : Prop := fnExactTreeSizeRow.holds Try.pinned (OpenSpec.ofChange fnExactTreeSizeSpec)

/-- ITS FALSE NEIGHBOUR: 'it returns false'. Refute it at one input. -/
def fnExactTreeSizeWrong : ChangeSpec := { name := "fnExactTreeSize", fn := fun _ => fun
  | [d] => { results := [.lit (.bool false)], args := [d] }
  | _ => none }
def FnExactTreeSizeWrongFalsely : Prop := fnExactTreeSizeRow.holds Try.pinned (OpenSpec.ofChange fnExactTreeSizeWrong)

/-- 'laws.FnExactDfaRun': WHATEVER THE INPUT: true; the input reads as it did. -/
def fnExactDfaRunSpec : ChangeSpec := { name := "fnExactDfaRun", fn := fun _ => fun
  | [d1, d2, d3] => { results := [.lit (.bool true)], args := [d1, d2, d3] }
  | _ => none }
def fnExactDfaRunRow : OpenClaim := { program := "ytlaalinfmhiehaa", sum := "5da598a89241c454572a7de9e7098ace304d44a3907e5083d78e89f65b35c43c", func := "loop.example/g00037/laws.FnExactDfaRun", spec := "fnExactDfaRun", apart := false }
def FnExactDfaRunSaid : Prop := fnExactDfaRunRow.holds Try.pinned (OpenSpec.ofChange fnExactDfaRunSpec)

/-- ITS FALSE NEIGHBOUR: 'it returns false'. Refute it at one input. -/
def fnExactDfaRunWrong : ChangeSpec := { name := "fnExactDfaRun", fn := fun _ => fun
  | [d1, d2, d3] => { results := [.lit (.bool false)], args := [d1, d2, d3] }
  | _ => none }
def FnExactDfaRunWrongFalsely : Prop := fnExactDfaRunRow.holds Try.pinned (OpenSpec.ofChange fnExactDfaRunWrong)

/-- 'laws.FnExactTreeYield': WHATEVER THE INPUT: true; the input reads as it did. -/
def fnExactTreeYieldSpec : ChangeSpec := { name := "fnExactTreeYield", fn := fun _ => fun
  | [d] => { results := [.lit (.bool true)], args := [d] }
  | _ => none }
def fnExactTreeYieldRow : OpenClaim := { program := "ytlaalinfmhiehaa", sum := "5da598a89241c454572a7de9e7098ace304d44a3907e5083d78e89f65b35c43c", func := "loop.example/g00037/laws.FnExactTreeYield", spec := "fnExactTreeYield", inPlace := ["internal/abi.NoEscape"], recurses := true, loops := true, apart := false }
def FnExactTreeYieldSaid : Prop := fnExactTreeYieldRow.holds Try.pinned (OpenSpec.ofChange fnExactTreeYieldSpec)

/-- ITS FALSE NEIGHBOUR: 'it returns false'. Refute it at one input. -/
def fnExactTreeYieldWrong : ChangeSpec := { name := "fnExactTreeYield", fn := fun _ => fun
  | [d] => { results := [.lit (.bool false)], args := [d] }
  | _ => none }
def FnExactTreeYieldWrongFalsely : Prop := fnExactTreeYieldRow.holds Try.pinned (OpenSpec.ofChange fnExactTreeYieldWrong)

/-- 'laws.FnExactSgOK': WHATEVER THE INPUT: true; the input reads as it did. -/
def fnExactSgOKSpec : ChangeSpec := { name := "fnExactSgOK", fn := fun _ => fun
  | [d] => { results := [.lit (.bool true)], args := [d] }
  | _ => none }
def fnExactSgOKRow : OpenClaim := { program := "ytlaalinfmhiehaa", sum := "5da598a89241c454572a7de9e7098ace304d44a3907e5083d78e89f65b35c43c", func := "loop.example/g00037/laws.FnExactSgOK", spec := "fnExactSgOK", unfollowed := true, recurses := true, apart := false }
def FnExactSgOKSaid : Prop := fnExactSgOKRow.holds Try.pinned (OpenSpec.ofChange fnExactSgOKSpec)

/-- ITS FALSE NEIGHBOUR: 'it returns false'. Refute it at one input. -/
def fnExactSgOKWrong : ChangeSpec := { name := "fnExactSgOK", fn := fun _ => fun
  | [d] => { results := [.lit (.bool false)], args := [d] }
  | _ => none }
def FnExactSgOKWrongFalsely : Prop := fnExactSgOKRow.holds Try.pinned (OpenSpec.ofChange fnExactSgOKWrong)

/-- 'laws.FnExactTermOK': WHATEVER THE INPUT: true; the input reads as it did. -/
def fnExactTermOKSpec : ChangeSpec := { name := "fnExactTermOK", fn := fun _ => fun
  | [d] => { results := [.lit (.bool true)], args := [d] }
  | _ => none }
def fnExactTermOKRow : OpenClaim := { program := "ytlaalinfmhiehaa", sum := "5da598a89241c454572a7de9e7098ace304d44a3907e5083d78e89f65b35c43c", func := "loop.example/g00037/laws.FnExactTermOK", spec := "fnExactTermOK", recurses := true, loops := true, apart := false }
def FnExactTermOKSaid : Prop := fnExactTermOKRow.holds Try.pinned (OpenSpec.ofChange fnExactTermOKSpec)

/-- ITS FALSE NEIGHBOUR: 'it returns false'. Refute it at one input. -/
def fnExactTermOKWrong : ChangeSpec := { name := "fnExactTermOK", fn := fun _ => fun
  | [d] => { results := [.lit (.bool false)], args := [d] }
  | _ => none }
def FnExactTermOKWrongFalsely : Prop := fnExactTermOKRow.holds Try.pinned (OpenSpec.ofChange fnExactTermOKWrong)

/-- 'laws.FnExactTreeAt': WHATEVER THE INPUT: true; the input reads as it did. -/
def fnExactTreeAtSpec : ChangeSpec := { name := "fnExactTreeAt", fn := fun _ => fun
  | [d1, d2] => { results := [.lit (.bool true)], args := [d1, d2] }
  | _ => none }
def fnExactTreeAtRow : OpenClaim := { program := "ytlaalinfmhiehaa", sum := "5da598a89241c454572a7de9e7098ace304d44a3907e5083d78e89f65b35c43c", func := "loop.example/g00037/laws.FnExactTreeAt", spec := "fnExactTreeAt", recurses := true, loops := true, apart := false }
def FnExactTreeAtSaid : Prop := fnExactTreeAtRow.holds Try.pinned (OpenSpec.ofChange fnExactTreeAtSpec)

/-- ITS FALSE NEIGHBOUR: 'it returns false'. Refute it at one input. -/
def fnExactTreeAtWrong : ChangeSpec := { name := "fnExactTreeAt", fn := fun _ => fun
  | [d1, d2] => { results := [.lit (.bool false)], args := [d1, d2] }
  | _ => none }
def FnExactTreeAtWrongFalsely : Prop := fnExactTreeAtRow.holds Try.pinned (OpenSpec.ofChange fnExactTreeAtWrong)

/-- 'laws.FnExactLayoutOK': WHATEVER THE INPUT: true; the input reads as it did. -/
def fnExactLayoutOKSpec : ChangeSpec := { name := "fnExactLayoutOK", fn := fun _ => fun
  | [d] => { results := [.lit (.bool true)], args := [d] }
  | _ => none }
def fnExactLayoutOKRow : OpenClaim := { program := "ytlaalinfmhiehaa", sum := "5da598a89241c454572a7de9e7098ace304d44a3907e5083d78e89f65b35c43c", func := "loop.example/g00037/laws.FnExactLayoutOK", spec := "fnExactLayoutOK", inPlace := ["internal/bytealg.IndexByteString", "internal/bytealg.IndexString"], named := ["internal/bytealg.MaxLen"], apart := false }
def FnExactLayoutOKSaid : Prop := fnExactLayoutOKRow.holds Try.pinned (OpenSpec.ofChange fnExactLayoutOKSpec)

/-- ITS FALSE NEIGHBOUR: 'it returns false'. Refute it at one input. -/
def fnExactLayoutOKWrong : ChangeSpec := { name := "fnExactLayoutOK", fn := fun _ => fun
  | [d] => { results := [.lit (.bool false)], args := [d] }
  | _ => none }
def FnExactLayoutOKWrongFalsely : Prop := fnExactLayoutOKRow.holds Try.pinned (OpenSpec.ofChange fnExactLayoutOKWrong)

/-- 'laws.FnExactTreePut': WHATEVER THE INPUT: true; the input reads as it did. -/
def fnExactTreePutSpec : ChangeSpec := { name := "fnExactTreePut", fn := fun _ => fun
  | [d1, d2, d3] => { results := [.lit (.bool true)], args := [d1, d2, d3] }
  | _ => none }
def fnExactTreePutRow : OpenClaim := { program := "ytlaalinfmhiehaa", sum := "5da598a89241c454572a7de9e7098ace304d44a3907e5083d78e89f65b35c43c", func := "loop.example/g00037/laws.FnExactTreePut", spec := "fnExactTreePut", recurses := true, loops := true, apart := false }
def FnExactTreePutSaid : Prop := fnExactTreePutRow.holds Try.pinned (OpenSpec.ofChange fnExactTreePutSpec)

/-- ITS FALSE NEIGHBOUR: 'it returns false'. Refute it at one input. -/
def fnExactTreePutWrong : ChangeSpec := { name := "fnExactTreePut", fn := fun _ => fun
  | [d1, d2, d3] => { results := [.lit (.bool false)], args := [d1, d2, d3] }
  | _ => none }
def FnExactTreePutWrongFalsely : Prop := fnExactTreePutRow.holds Try.pinned (OpenSpec.ofChange fnExactTreePutWrong)

/- THE SECOND FORM. 'bulk': how many values and letters a reading holds, each counted each time it is reached (what is shared counts as often as it is met; a slice's spare places count too). A statement '..UptoSaid' is the law's where the arguments, and the package variables that the reading takes, are together of bulk at most 1048576: NARROWER than '..Said'. Prove '..Said' where nothing that the law and all that it calls make is longer than what came in: it says more and counts as full. Else prove '..UptoSaid'. A law counts once. -/
mutual
def uptoBulk {H : Type} : DataW H → Nat
  | .lit (.string bytes) => bytes.length + 1
  | .lit _ => 1
  | .nil => 1
  | .ptr d => uptoBulk d + 1
  | .slice elems spare => uptoBulkAll elems + uptoBulkAll spare + 1
  | .agg parts => uptoBulkAll parts + 1
  | .iface _ d => uptoBulk d + 1
  | .map entries => uptoBulkEntries entries + 1
  | .held _ => 1
def uptoBulkAll {H : Type} : List (DataW H) → Nat
  | [] => 0
  | d :: r => uptoBulk d + uptoBulkAll r
def uptoBulkEntries {H : Type} : List (Lit × DataW H) → Nat
  | [] => 0
  | x :: r => uptoBulkEntry x + uptoBulkEntries r
def uptoBulkEntry {H : Type} : Lit × DataW H → Nat
  | (.string bytes, d) => bytes.length + uptoBulk d + 1
  | (_, d) => uptoBulk d + 1
 end
def uptoSmall : (H : Type) → List (DataW H) → Bool := fun _ ds => decide (uptoBulkAll ds ≤ 1048576)
def OpenSpec.upto (s : _root_.Go.ChangeSpec) : _root_.Go.OpenSpec := { _root_.Go.OpenSpec.ofChange s with cond := some uptoSmall }

/-- 'laws.FnExactConstants', WHERE WHAT IT READS IS OF BULK AT MOST 1048576: true; the input reads as it did. -/
def fnExactConstantsUptoRow : OpenClaim := { program := "ytlaalinfmhiehaa", sum := "5da598a89241c454572a7de9e7098ace304d44a3907e5083d78e89f65b35c43c", func := "loop.example/g00037/laws.FnExactConstants", spec := "fnExactConstants", apart := false, narrowed := true }
def FnExactConstantsUptoSaid : Prop := fnExactConstantsUptoRow.holds Try.pinned (OpenSpec.upto fnExactConstantsSpec)

/-- 'laws.FnExactEdited', WHERE WHAT IT READS IS OF BULK AT MOST 1048576: true; the input reads as it did. -/
def fnExactEditedUptoRow : OpenClaim := { program := "ytlaalinfmhiehaa", sum := "5da598a89241c454572a7de9e7098ace304d44a3907e5083d78e89f65b35c43c", func := "loop.example/g00037/laws.FnExactEdited", spec := "fnExactEdited", apart := false, narrowed := true }
def FnExactEditedUptoSaid : Prop := fnExactEditedUptoRow.holds Try.pinned (OpenSpec.upto fnExactEditedSpec)

/-- 'laws.FnExactApply', WHERE WHAT IT READS IS OF BULK AT MOST 1048576: true; the input reads as it did. -/
def fnExactApplyUptoRow : OpenClaim := { program := "ytlaalinfmhiehaa", sum := "5da598a89241c454572a7de9e7098ace304d44a3907e5083d78e89f65b35c43c", func := "loop.example/g00037/laws.FnExactApply", spec := "fnExactApply", apart := false, narrowed := true }
def FnExactApplyUptoSaid : Prop := fnExactApplyUptoRow.holds Try.pinned (OpenSpec.upto fnExactApplySpec)

/-- 'laws.FnExactTreeOK', WHERE WHAT IT READS IS OF BULK AT MOST 1048576: true; the input reads as it did. -/
def fnExactTreeOKUptoRow : OpenClaim := { program := "ytlaalinfmhiehaa", sum := "5da598a89241c454572a7de9e7098ace304d44a3907e5083d78e89f65b35c43c", func := "loop.example/g00037/laws.FnExactTreeOK", spec := "fnExactTreeOK", recurses := true, loops := true, apart := false, narrowed := true }
def FnExactTreeOKUptoSaid : Prop := fnExactTreeOKUptoRow.holds Try.pinned (OpenSpec.upto fnExactTreeOKSpec)

/-- 'laws.FnExactTreeSize', WHERE WHAT IT READS IS OF BULK AT MOST 1048576: true; the input reads as it did. -/
def fnExactTreeSizeUptoRow : OpenClaim := { program := "ytlaalinfmhiehaa", sum := "5da598a89241c454572a7de9e7098ace304d44a3907e5083d78e89f65b35c43c", func := "loop.example/g00037/laws.FnExactTreeSize", spec := "fnExactTreeSize", recurses := true, loops := true, apart := false, narrowed := true }
def FnExactTreeSizeUptoSaid : Prop := fnExactTreeSizeUptoRow.holds Try.pinned (OpenSpec.upto fnExactTreeSizeSpec)

/-- 'laws.FnExactDfaRun', WHERE WHAT IT READS IS OF BULK AT MOST 1048576: true; the input reads as it did. -/
def fnExactDfaRunUptoRow : OpenClaim := { program := "ytlaalinfmhiehaa", sum := "5da598a89241c454572a7de9e7098ace304d44a3907e5083d78e89f65b35c43c", func := "loop.example/g00037/laws.FnExactDfaRun", spec := "fnExactDfaRun", apart := false, narrowed := true }
def FnExactDfaRunUptoSaid : Prop := fnExactDfaRunUptoRow.holds Try.pinned (OpenSpec.upto fnExactDfaRunSpec)

/-- 'laws.FnExactTreeYield', WHERE WHAT IT READS IS OF BULK AT MOST 1048576: true; the input reads as it did. -/
def fnExactTreeYieldUptoRow : OpenClaim := { program := "ytlaalinfmhiehaa", sum := "5da598a89241c454572a7de9e7098ace304d44a3907e5083d78e89f65b35c43c", func := "loop.example/g00037/laws.FnExactTreeYield", spec := "fnExactTreeYield", inPlace := ["internal/abi.NoEscape"], recurses := true, loops := true, apart := false, narrowed := true }
def FnExactTreeYieldUptoSaid : Prop := fnExactTreeYieldUptoRow.holds Try.pinned (OpenSpec.upto fnExactTreeYieldSpec)

/-- 'laws.FnExactSgOK', WHERE WHAT IT READS IS OF BULK AT MOST 1048576: true; the input reads as it did. -/
def fnExactSgOKUptoRow : OpenClaim := { program := "ytlaalinfmhiehaa", sum := "5da598a89241c454572a7de9e7098ace304d44a3907e5083d78e89f65b35c43c", func := "loop.example/g00037/laws.FnExactSgOK", spec := "fnExactSgOK", unfollowed := true, recurses := true, apart := false, narrowed := true }
def FnExactSgOKUptoSaid : Prop := fnExactSgOKUptoRow.holds Try.pinned (OpenSpec.upto fnExactSgOKSpec)

/-- 'laws.FnExactTermOK', WHERE WHAT IT READS IS OF BULK AT MOST 1048576: true; the input reads as it did. -/
def fnExactTermOKUptoRow : OpenClaim := { program := "ytlaalinfmhiehaa", sum := "5da598a89241c454572a7de9e7098ace304d44a3907e5083d78e89f65b35c43c", func := "loop.example/g00037/laws.FnExactTermOK", spec := "fnExactTermOK", recurses := true, loops := true, apart := false, narrowed := true }
def FnExactTermOKUptoSaid : Prop := fnExactTermOKUptoRow.holds Try.pinned (OpenSpec.upto fnExactTermOKSpec)

/-- 'laws.FnExactTreeAt', WHERE WHAT IT READS IS OF BULK AT MOST 1048576: true; the input reads as it did. -/
def fnExactTreeAtUptoRow : OpenClaim := { program := "ytlaalinfmhiehaa", sum := "5da598a89241c454572a7de9e7098ace304d44a3907e5083d78e89f65b35c43c", func := "loop.example/g00037/laws.FnExactTreeAt", spec := "fnExactTreeAt", recurses := true, loops := true, apart := false, narrowed := true }
def FnExactTreeAtUptoSaid : Prop := fnExactTreeAtUptoRow.holds Try.pinned (OpenSpec.upto fnExactTreeAtSpec)

/-- 'laws.FnExactLayoutOK', WHERE WHAT IT READS IS OF BULK AT MOST 1048576: true; the input reads as it did. -/
def fnExactLayoutOKUptoRow : OpenClaim := { program := "ytlaalinfmhiehaa", sum := "5da598a89241c454572a7de9e7098ace304d44a3907e5083d78e89f65b35c43c", func := "loop.example/g00037/laws.FnExactLayoutOK", spec := "fnExactLayoutOK", inPlace := ["internal/bytealg.IndexByteString", "internal/bytealg.IndexString"], named := ["internal/bytealg.MaxLen"], apart := false, narrowed := true }
def FnExactLayoutOKUptoSaid : Prop := fnExactLayoutOKUptoRow.holds Try.pinned (OpenSpec.upto fnExactLayoutOKSpec)

/-- 'laws.FnExactTreePut', WHERE WHAT IT READS IS OF BULK AT MOST 1048576: true; the input reads as it did. -/
def fnExactTreePutUptoRow : OpenClaim := { program := "ytlaalinfmhiehaa", sum := "5da598a89241c454572a7de9e7098ace304d44a3907e5083d78e89f65b35c43c", func := "loop.example/g00037/laws.FnExactTreePut", spec := "fnExactTreePut", recurses := true, loops := true, apart := false, narrowed := true }
def FnExactTreePutUptoSaid : Prop := fnExactTreePutUptoRow.holds Try.pinned (OpenSpec.upto fnExactTreePutSpec)

end Rows
end Go.Proofs.Ytlaalinfmhiehaa
