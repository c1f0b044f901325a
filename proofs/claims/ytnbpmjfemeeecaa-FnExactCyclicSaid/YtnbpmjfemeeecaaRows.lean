/-
  NARROWER THAN 'FOR EVERY INPUT', by the rows' own cells (each row's printed sentence says how): FnExactMerge: loops · FnExactDiff: loops.
  DERIVED. THE GIVEN ROWS OF THIS SEAT. 8 by the template 'for every input the law returns true; each argument reads behind the call as it read before'; 0 by the template 'total and deterministic' (their statements: YtnbpmjfemeeecaaTotals.lean).
  GIVEN WITH THE SEED: the statements are not yours to turn. If you find one false, say at which input.
  Laid BY PROGRAM, IN A SANDBOX (cutbox-rows.mjs): the forced cells as the released guide's own fill.sh prints them over the translation c8afc2e12fae4c19… (all of the seat's roots in one cut). By AI agents, Wed Nov 11 2026. No macro, syntax, notation, axiom, sorry.
-/
import Derived.Test.YtnbpmjfemeeecaaChecked
import GoSem.Claim
import GoSem.ClaimJoined
import GoSem.ClaimMapViews
import Derived.JoinedTies
import Derived.KernelRfl
namespace Go.Proofs.Ytnbpmjfemeeecaa
/- THE CELL 'sum', in the pinned program and in every row, IS THE sha256 OF THE DUMP (.gsa) THAT YtnbpmjfemeeecaaProg.lean LOADS. Nothing in Lean hashes anything: it is a label: what it is worth is what the hold of that sum in a sandbox is worth. -/
noncomputable def Try.pinned : Pinned := { name := "ytnbpmjfemeeecaa", sum := "c8afc2e12fae4c1992180d4e6847f0cf667eb3cdd1047f81de08b4dbcf2b2698", checked := Try.checked }
namespace Rows
def none {H : Type} : Left H := { results := [], args := [] }

/-- 'laws.FnExactMerge': WHATEVER THE INPUT: true; the input reads as it did. -/
def fnExactMergeSpec : ChangeSpec := { name := "fnExactMerge", fn := fun _ => fun
  | [d1, d2, d3] => { results := [.lit (.bool true)], args := [d1, d2, d3] }
  | _ => none }
def fnExactMergeRow : OpenClaim := { program := "ytnbpmjfemeeecaa", sum := "c8afc2e12fae4c1992180d4e6847f0cf667eb3cdd1047f81de08b4dbcf2b2698", func := "loop.example/g00037/laws.FnExactMerge", spec := "fnExactMerge", unfollowed := true, recurses := true, loops := true, plainKeys := false, apart := false }
def FnExactMergeSaid : Prop := fnExactMergeRow.holds Try.pinned (OpenSpec.ofChange fnExactMergeSpec)

/-- ITS FALSE NEIGHBOUR: 'it returns false'. Refute it at one input. -/
def fnExactMergeWrong : ChangeSpec := { name := "fnExactMerge", fn := fun _ => fun
  | [d1, d2, d3] => { results := [.lit (.bool false)], args := [d1, d2, d3] }
  | _ => none }
def FnExactMergeWrongFalsely : Prop := fnExactMergeRow.holds Try.pinned (OpenSpec.ofChange fnExactMergeWrong)

/-- 'laws.FnExactSet': WHATEVER THE INPUT: true; the input reads as it did. -/
def fnExactSetSpec : ChangeSpec := { name := "fnExactSet", fn := fun _ => fun
  | [d1, d2] => { results := [.lit (.bool true)], args := [d1, d2] }
  | _ => none }
def fnExactSetRow : OpenClaim := { program := "ytnbpmjfemeeecaa", sum := "c8afc2e12fae4c1992180d4e6847f0cf667eb3cdd1047f81de08b4dbcf2b2698", func := "loop.example/g00037/laws.FnExactSet", spec := "fnExactSet", inPlace := ["internal/bytealg.IndexByteString", "internal/bytealg.IndexString", "internal/abi.NoEscape", "internal/bytealg.MakeNoZero"], unfollowed := true, recurses := true, named := ["internal/bytealg.MaxLen"], plainKeys := false, apart := false }
def FnExactSetSaid : Prop := fnExactSetRow.holds Try.pinned (OpenSpec.ofChange fnExactSetSpec)

/-- ITS FALSE NEIGHBOUR: 'it returns false'. Refute it at one input. -/
def fnExactSetWrong : ChangeSpec := { name := "fnExactSet", fn := fun _ => fun
  | [d1, d2] => { results := [.lit (.bool false)], args := [d1, d2] }
  | _ => none }
def FnExactSetWrongFalsely : Prop := fnExactSetRow.holds Try.pinned (OpenSpec.ofChange fnExactSetWrong)

/-- 'laws.FnExactLayout': WHATEVER THE INPUT: true; the input reads as it did. -/
def fnExactLayoutSpec : ChangeSpec := { name := "fnExactLayout", fn := fun _ => fun
  | [d1, d2] => { results := [.lit (.bool true)], args := [d1, d2] }
  | _ => none }
def fnExactLayoutRow : OpenClaim := { program := "ytnbpmjfemeeecaa", sum := "c8afc2e12fae4c1992180d4e6847f0cf667eb3cdd1047f81de08b4dbcf2b2698", func := "loop.example/g00037/laws.FnExactLayout", spec := "fnExactLayout", inPlace := ["internal/bytealg.IndexByteString", "internal/bytealg.IndexString", "internal/abi.NoEscape", "internal/bytealg.MakeNoZero"], unfollowed := true, recurses := true, named := ["internal/bytealg.MaxLen"], plainKeys := false, apart := false }
def FnExactLayoutSaid : Prop := fnExactLayoutRow.holds Try.pinned (OpenSpec.ofChange fnExactLayoutSpec)

/-- ITS FALSE NEIGHBOUR: 'it returns false'. Refute it at one input. -/
def fnExactLayoutWrong : ChangeSpec := { name := "fnExactLayout", fn := fun _ => fun
  | [d1, d2] => { results := [.lit (.bool false)], args := [d1, d2] }
  | _ => none }
def FnExactLayoutWrongFalsely : Prop := fnExactLayoutRow.holds Try.pinned (OpenSpec.ofChange fnExactLayoutWrong)

/-- 'laws.FnExactCyclic': WHATEVER THE INPUT: true; the input reads as it did. -/
def fnExactCyclicSpec : ChangeSpec := { name := "fnExactCyclic", fn := fun _ => fun
  | [d] => { results := [.lit (.bool true)], args := [d] }
  | _ => none }
def fnExactCyclicRow : OpenClaim := { program := "ytnbpmjfemeeecaa", sum := "c8afc2e12fae4c1992180d4e6847f0cf667eb3cdd1047f81de08b4dbcf2b2698", func := "loop.example/g00037/laws.FnExactCyclic", spec := "fnExactCyclic", unfollowed := true, recurses := true, plainKeys := false, apart := false }
def FnExactCyclicSaid : Prop := fnExactCyclicRow.holds Try.pinned (OpenSpec.ofChange fnExactCyclicSpec)

/-- ITS FALSE NEIGHBOUR: 'it returns false'. Refute it at one input. -/
def fnExactCyclicWrong : ChangeSpec := { name := "fnExactCyclic", fn := fun _ => fun
  | [d] => { results := [.lit (.bool false)], args := [d] }
  | _ => none }
def FnExactCyclicWrongFalsely : Prop := fnExactCyclicRow.holds Try.pinned (OpenSpec.ofChange fnExactCyclicWrong)

/-- 'laws.FnExactParse': WHATEVER THE INPUT: true; the input reads as it did. -/
def fnExactParseSpec : ChangeSpec := { name := "fnExactParse", fn := fun _ => fun
  | [d1, d2, d3] => { results := [.lit (.bool true)], args := [d1, d2, d3] }
  | _ => none }
def fnExactParseRow : OpenClaim := { program := "ytnbpmjfemeeecaa", sum := "c8afc2e12fae4c1992180d4e6847f0cf667eb3cdd1047f81de08b4dbcf2b2698", func := "loop.example/g00037/laws.FnExactParse", spec := "fnExactParse", recurses := true, plainKeys := false, apart := false }
def FnExactParseSaid : Prop := fnExactParseRow.holds Try.pinned (OpenSpec.ofChange fnExactParseSpec)

/-- ITS FALSE NEIGHBOUR: 'it returns false'. Refute it at one input. -/
def fnExactParseWrong : ChangeSpec := { name := "fnExactParse", fn := fun _ => fun
  | [d1, d2, d3] => { results := [.lit (.bool false)], args := [d1, d2, d3] }
  | _ => none }
def FnExactParseWrongFalsely : Prop := fnExactParseRow.holds Try.pinned (OpenSpec.ofChange fnExactParseWrong)

/-- 'laws.FnExactExpected': WHATEVER THE INPUT: true; the input reads as it did. -/
def fnExactExpectedSpec : ChangeSpec := { name := "fnExactExpected", fn := fun _ => fun
  | [d1, d2, d3] => { results := [.lit (.bool true)], args := [d1, d2, d3] }
  | _ => none }
def fnExactExpectedRow : OpenClaim := { program := "ytnbpmjfemeeecaa", sum := "c8afc2e12fae4c1992180d4e6847f0cf667eb3cdd1047f81de08b4dbcf2b2698", func := "loop.example/g00037/laws.FnExactExpected", spec := "fnExactExpected", plainKeys := false, apart := false }
def FnExactExpectedSaid : Prop := fnExactExpectedRow.holds Try.pinned (OpenSpec.ofChange fnExactExpectedSpec)

/-- ITS FALSE NEIGHBOUR: 'it returns false'. Refute it at one input. -/
def fnExactExpectedWrong : ChangeSpec := { name := "fnExactExpected", fn := fun _ => fun
  | [d1, d2, d3] => { results := [.lit (.bool false)], args := [d1, d2, d3] }
  | _ => none }
def FnExactExpectedWrongFalsely : Prop := fnExactExpectedRow.holds Try.pinned (OpenSpec.ofChange fnExactExpectedWrong)

/-- 'laws.FnExactRxOK': WHATEVER THE INPUT: true; the input reads as it did. -/
def fnExactRxOKSpec : ChangeSpec := { name := "fnExactRxOK", fn := fun _ => fun
  | [d] => { results := [.lit (.bool true)], args := [d] }
  | _ => none }
def fnExactRxOKRow : OpenClaim := { program := "ytnbpmjfemeeecaa", sum := "c8afc2e12fae4c1992180d4e6847f0cf667eb3cdd1047f81de08b4dbcf2b2698", func := "loop.example/g00037/laws.FnExactRxOK", spec := "fnExactRxOK", inPlace := ["internal/bytealg.IndexByteString"], unfollowed := true, recurses := true, plainKeys := false, apart := false }
def FnExactRxOKSaid : Prop := fnExactRxOKRow.holds Try.pinned (OpenSpec.ofChange fnExactRxOKSpec)

/-- ITS FALSE NEIGHBOUR: 'it returns false'. Refute it at one input. -/
def fnExactRxOKWrong : ChangeSpec := { name := "fnExactRxOK", fn := fun _ => fun
  | [d] => { results := [.lit (.bool false)], args := [d] }
  | _ => none }
def FnExactRxOKWrongFalsely : Prop := fnExactRxOKRow.holds Try.pinned (OpenSpec.ofChange fnExactRxOKWrong)

/-- 'laws.FnExactDiff': WHATEVER THE INPUT: true; the input reads as it did. -/
def fnExactDiffSpec : ChangeSpec := { name := "fnExactDiff", fn := fun _ => fun
  | [d1, d2] => { results := [.lit (.bool true)], args := [d1, d2] }
  | _ => none }
def fnExactDiffRow : OpenClaim := { program := "ytnbpmjfemeeecaa", sum := "c8afc2e12fae4c1992180d4e6847f0cf667eb3cdd1047f81de08b4dbcf2b2698", func := "loop.example/g00037/laws.FnExactDiff", spec := "fnExactDiff", unfollowed := true, recurses := true, loops := true, plainKeys := false, apart := false }
def FnExactDiffSaid : Prop := fnExactDiffRow.holds Try.pinned (OpenSpec.ofChange fnExactDiffSpec)

/-- ITS FALSE NEIGHBOUR: 'it returns false'. Refute it at one input. -/
def fnExactDiffWrong : ChangeSpec := { name := "fnExactDiff", fn := fun _ => fun
  | [d1, d2] => { results := [.lit (.bool false)], args := [d1, d2] }
  | _ => none }
def FnExactDiffWrongFalsely : Prop := fnExactDiffRow.holds Try.pinned (OpenSpec.ofChange fnExactDiffWrong)

/- THE SECOND FORM. 'bulk': how many values and letters a reading holds, each counted each time it is reached (what is shared counts as often as it is met; a slice's spare places count too). A statement '..UptoSaid' is the law's where the arguments, and the package variables that the reading takes, are together of bulk at most 1048576: NARROWER than '..Said'. Prove '..Said' where nothing that the law and all that it calls make is longer than what came in: it says more and counts as full. Else prove '..UptoSaid'. A law counts once. -/
mutual
def uptoBulk {H : Type} : DataW H → Nat
  | .lit (.string bytes) => bytes.length + 1
  | .lit _ => 1
  | .nil => 1
  | .ptr d => uptoBulk d + 1
  | .slice elems spare => uptoBulkAll elems + uptoBulkAll spare + 1
  | .agg parts => uptoBulkAll parts + 1
  | .iface _ d => uptoBulk d + 1
  | .map entries => uptoBulkEntries entries + 1
  | .held _ => 1
def uptoBulkAll {H : Type} : List (DataW H) → Nat
  | [] => 0
  | d :: r => uptoBulk d + uptoBulkAll r
def uptoBulkEntries {H : Type} : List (Lit × DataW H) → Nat
  | [] => 0
  | x :: r => uptoBulkEntry x + uptoBulkEntries r
def uptoBulkEntry {H : Type} : Lit × DataW H → Nat
  | (.string bytes, d) => bytes.length + uptoBulk d + 1
  | (_, d) => uptoBulk d + 1
 end
def uptoSmall : (H : Type) → List (DataW H) → Bool := fun _ ds => decide (uptoBulkAll ds ≤ 1048576)
def OpenSpec.upto (s : _root_.Go.ChangeSpec) : _root_.Go.OpenSpec := { _root_.Go.OpenSpec.ofChange s with cond := some uptoSmall }

/-- 'laws.FnExactMerge', WHERE WHAT IT READS IS OF BULK AT MOST 1048576: true; the input reads as it did. -/
def fnExactMergeUptoRow : OpenClaim := { program := "ytnbpmjfemeeecaa", sum := "c8afc2e12fae4c1992180d4e6847f0cf667eb3cdd1047f81de08b4dbcf2b2698", func := "loop.example/g00037/laws.FnExactMerge", spec := "fnExactMerge", unfollowed := true, recurses := true, loops := true, plainKeys := false, apart := false, narrowed := true }
def FnExactMergeUptoSaid : Prop := fnExactMergeUptoRow.holds Try.pinned (OpenSpec.upto fnExactMergeSpec)

/-- 'laws.FnExactSet', WHERE WHAT IT READS IS OF BULK AT MOST 1048576: true; the input reads as it did. -/
def fnExactSetUptoRow : OpenClaim := { program := "ytnbpmjfemeeecaa", sum := "c8afc2e12fae4c1992180d4e6847f0cf667eb3cdd1047f81de08b4dbcf2b2698", func := "loop.example/g00037/laws.FnExactSet", spec := "fnExactSet", inPlace := ["internal/bytealg.IndexByteString", "internal/bytealg.IndexString", "internal/abi.NoEscape", "internal/bytealg.MakeNoZero"], unfollowed := true, recurses := true, named := ["internal/bytealg.MaxLen"], plainKeys := false, apart := false, narrowed := true }
def FnExactSetUptoSaid : Prop := fnExactSetUptoRow.holds Try.pinned (OpenSpec.upto fnExactSetSpec)

/-- 'laws.FnExactLayout', WHERE WHAT IT READS IS OF BULK AT MOST 1048576: true; the input reads as it did. -/
def fnExactLayoutUptoRow : OpenClaim := { program := "ytnbpmjfemeeecaa", sum := "c8afc2e12fae4c1992180d4e6847f0cf667eb3cdd1047f81de08b4dbcf2b2698", func := "loop.example/g00037/laws.FnExactLayout", spec := "fnExactLayout", inPlace := ["internal/bytealg.IndexByteString", "internal/bytealg.IndexString", "internal/abi.NoEscape", "internal/bytealg.MakeNoZero"], unfollowed := true, recurses := true, named := ["internal/bytealg.MaxLen"], plainKeys := false, apart := false, narrowed := true }
def FnExactLayoutUptoSaid : Prop := fnExactLayoutUptoRow.holds Try.pinned (OpenSpec.upto fnExactLayoutSpec)

/-- 'laws.FnExactCyclic', WHERE WHAT IT READS IS OF BULK AT MOST 1048576: true; the input reads as it did. -/
def fnExactCyclicUptoRow : OpenClaim := { program := "ytnbpmjfemeeecaa", sum := "c8afc2e12fae4c1992180d4e6847f0cf667eb3cdd1047f81de08b4dbcf2b2698", func := "loop.example/g00037/laws.FnExactCyclic", spec := "fnExactCyclic", unfollowed := true, recurses := true, plainKeys := false, apart := false, narrowed := true }
def FnExactCyclicUptoSaid : Prop := fnExactCyclicUptoRow.holds Try.pinned (OpenSpec.upto fnExactCyclicSpec)

/-- 'laws.FnExactParse', WHERE WHAT IT READS IS OF BULK AT MOST 1048576: true; the input reads as it did. -/
def fnExactParseUptoRow : OpenClaim := { program := "ytnbpmjfemeeecaa", sum := "c8afc2e12fae4c1992180d4e6847f0cf667eb3cdd1047f81de08b4dbcf2b2698", func := "loop.example/g00037/laws.FnExactParse", spec := "fnExactParse", recurses := true, plainKeys := false, apart := false, narrowed := true }
def FnExactParseUptoSaid : Prop := fnExactParseUptoRow.holds Try.pinned (OpenSpec.upto fnExactParseSpec)

/-- 'laws.FnExactExpected', WHERE WHAT IT READS IS OF BULK AT MOST 1048576: true; the input reads as it did. -/
def fnExactExpectedUptoRow : OpenClaim := { program := "ytnbpmjfemeeecaa", sum := "c8afc2e12fae4c1992180d4e6847f0cf667eb3cdd1047f81de08b4dbcf2b2698", func := "loop.example/g00037/laws.FnExactExpected", spec := "fnExactExpected", plainKeys := false, apart := false, narrowed := true }
def FnExactExpectedUptoSaid : Prop := fnExactExpectedUptoRow.holds Try.pinned (OpenSpec.upto fnExactExpectedSpec)

/-- 'laws.FnExactRxOK', WHERE WHAT IT READS IS OF BULK AT MOST 1048576: true; the input reads as it did. -/
def fnExactRxOKUptoRow : OpenClaim := { program := "ytnbpmjfemeeecaa", sum := "c8afc2e12fae4c1992180d4e6847f0cf667eb3cdd1047f81de08b4dbcf2b2698", func := "loop.example/g00037/laws.FnExactRxOK", spec := "fnExactRxOK", inPlace := ["internal/bytealg.IndexByteString"], unfollowed := true, recurses := true, plainKeys := false, apart := false, narrowed := true }
def FnExactRxOKUptoSaid : Prop := fnExactRxOKUptoRow.holds Try.pinned (OpenSpec.upto fnExactRxOKSpec)

/-- 'laws.FnExactDiff', WHERE WHAT IT READS IS OF BULK AT MOST 1048576: true; the input reads as it did. -/
def fnExactDiffUptoRow : OpenClaim := { program := "ytnbpmjfemeeecaa", sum := "c8afc2e12fae4c1992180d4e6847f0cf667eb3cdd1047f81de08b4dbcf2b2698", func := "loop.example/g00037/laws.FnExactDiff", spec := "fnExactDiff", unfollowed := true, recurses := true, loops := true, plainKeys := false, apart := false, narrowed := true }
def FnExactDiffUptoSaid : Prop := fnExactDiffUptoRow.holds Try.pinned (OpenSpec.upto fnExactDiffSpec)

end Rows
end Go.Proofs.Ytnbpmjfemeeecaa
