/-
  NARROWER THAN 'FOR EVERY INPUT', by the rows' own cells (each row's printed sentence says how): FnExactScopesOf: loops · FnExactUnify: loops.
  DERIVED. THE GIVEN ROWS OF THIS SEAT. 8 by the template 'for every input the law returns true; each argument reads behind the call as it read before'; 0 by the template 'total and deterministic' (their statements: YtmbnloccmnclnaaTotals.lean).
  GIVEN WITH THE SEED: the statements are not yours to turn. If you find one false, say at which input.
  Laid BY PROGRAM, IN A SANDBOX (cutbox-rows.mjs): the forced cells as the released guide's own fill.sh prints them over the translation 78d854db4795cdb1… (all of the seat's roots in one cut). By AI agents, Wed Nov 11 2026. No macro, syntax, notation, axiom, sorry.
-/
import Derived.Test.YtmbnloccmnclnaaChecked
import GoSem.Claim
import GoSem.ClaimJoined
import GoSem.ClaimMapViews
import Derived.JoinedTies
import Derived.KernelRfl
namespace Go.Proofs.Ytmbnloccmnclnaa
/- THE CELL 'sum', in the pinned program and in every row, IS THE sha256 OF THE DUMP (.gsa) THAT YtmbnloccmnclnaaProg.lean LOADS. Nothing in Lean hashes anything: it is a label: what it is worth is what the hold of that sum in a sandbox is worth. -/
noncomputable def Try.pinned : Pinned := { name := "ytmbnloccmnclnaa", sum := "78d854db4795cdb14e927febf2240eaa2514dfd6b8aa2e5e94ad3865a75b5268", checked := Try.checked }
namespace Rows
def none {H : Type} : Left H := { results := [], args := [] }

/-- 'laws.FnExactCyclic': WHATEVER THE INPUT: true; the input reads as it did. -/
def fnExactCyclicSpec : ChangeSpec := { name := "fnExactCyclic", fn := fun _ => fun
  | [d] => { results := [.lit (.bool true)], args := [d] }
  | _ => none }
def fnExactCyclicRow : OpenClaim := { program := "ytmbnloccmnclnaa", sum := "78d854db4795cdb14e927febf2240eaa2514dfd6b8aa2e5e94ad3865a75b5268", func := "loop.example/g00037/laws.FnExactCyclic", spec := "fnExactCyclic", unfollowed := true, recurses := true, apart := false }
def FnExactCyclicSaid : Prop := fnExactCyclicRow.holds Try.pinned (OpenSpec.ofChange fnExactCyclicSpec)

/-- ITS FALSE NEIGHBOUR: 'it returns false'. Refute it at one input. -/
def fnExactCyclicWrong : ChangeSpec := { name := "fnExactCyclic", fn := fun _ => fun
  | [d] => { results := [.lit (.bool false)], args := [d] }
  | _ => none }
def FnExactCyclicWrongFalsely : Prop := fnExactCyclicRow.holds Try.pinned (OpenSpec.ofChange fnExactCyclicWrong)

/-- 'laws.FnExactSet': WHATEVER THE INPUT: true; the input reads as it did. -/
def fnExactSetSpec : ChangeSpec := { name := "fnExactSet", fn := fun _ => fun
  | [d1, d2] => { results := [.lit (.bool true)], args := [d1, d2] }
  | _ => none }
def fnExactSetRow : OpenClaim := { program := "ytmbnloccmnclnaa", sum := "78d854db4795cdb14e927febf2240eaa2514dfd6b8aa2e5e94ad3865a75b5268", func := "loop.example/g00037/laws.FnExactSet", spec := "fnExactSet", inPlace := ["internal/bytealg.IndexByteString", "internal/bytealg.IndexString", "internal/abi.NoEscape", "internal/bytealg.MakeNoZero"], unfollowed := true, recurses := true, named := ["internal/bytealg.MaxLen"], apart := false }
def FnExactSetSaid : Prop := fnExactSetRow.holds Try.pinned (OpenSpec.ofChange fnExactSetSpec)

/-- ITS FALSE NEIGHBOUR: 'it returns false'. Refute it at one input. -/
def fnExactSetWrong : ChangeSpec := { name := "fnExactSet", fn := fun _ => fun
  | [d1, d2] => { results := [.lit (.bool false)], args := [d1, d2] }
  | _ => none }
def FnExactSetWrongFalsely : Prop := fnExactSetRow.holds Try.pinned (OpenSpec.ofChange fnExactSetWrong)

/-- 'laws.FnExactTerminals': WHATEVER THE INPUT: true; the input reads as it did. -/
def fnExactTerminalsSpec : ChangeSpec := { name := "fnExactTerminals", fn := fun _ => fun
  | [d1, d2] => { results := [.lit (.bool true)], args := [d1, d2] }
  | _ => none }
def fnExactTerminalsRow : OpenClaim := { program := "ytmbnloccmnclnaa", sum := "78d854db4795cdb14e927febf2240eaa2514dfd6b8aa2e5e94ad3865a75b5268", func := "loop.example/g00037/laws.FnExactTerminals", spec := "fnExactTerminals", apart := false }
def FnExactTerminalsSaid : Prop := fnExactTerminalsRow.holds Try.pinned (OpenSpec.ofChange fnExactTerminalsSpec)

/-- ITS FALSE NEIGHBOUR: 'it returns false'. Refute it at one input. -/
def fnExactTerminalsWrong : ChangeSpec := { name := "fnExactTerminals", fn := fun _ => fun
  | [d1, d2] => { results := [.lit (.bool false)], args := [d1, d2] }
  | _ => none }
def FnExactTerminalsWrongFalsely : Prop := fnExactTerminalsRow.holds Try.pinned (OpenSpec.ofChange fnExactTerminalsWrong)

/-- 'laws.FnExactScopesOf': WHATEVER THE INPUT: true; the input reads as it did. -/
def fnExactScopesOfSpec : ChangeSpec := { name := "fnExactScopesOf", fn := fun _ => fun
  | [d] => { results := [.lit (.bool true)], args := [d] }
  | _ => none }
def fnExactScopesOfRow : OpenClaim := { program := "ytmbnloccmnclnaa", sum := "78d854db4795cdb14e927febf2240eaa2514dfd6b8aa2e5e94ad3865a75b5268", func := "loop.example/g00037/laws.FnExactScopesOf", spec := "fnExactScopesOf", unfollowed := true, recurses := true, loops := true, apart := false }
def FnExactScopesOfSaid : Prop := fnExactScopesOfRow.holds Try.pinned (OpenSpec.ofChange fnExactScopesOfSpec)

/-- ITS FALSE NEIGHBOUR: 'it returns false'. Refute it at one input. -/
def fnExactScopesOfWrong : ChangeSpec := { name := "fnExactScopesOf", fn := fun _ => fun
  | [d] => { results := [.lit (.bool false)], args := [d] }
  | _ => none }
def FnExactScopesOfWrongFalsely : Prop := fnExactScopesOfRow.holds Try.pinned (OpenSpec.ofChange fnExactScopesOfWrong)

/-- 'laws.FnExactLayout': WHATEVER THE INPUT: true; the input reads as it did. -/
def fnExactLayoutSpec : ChangeSpec := { name := "fnExactLayout", fn := fun _ => fun
  | [d1, d2] => { results := [.lit (.bool true)], args := [d1, d2] }
  | _ => none }
def fnExactLayoutRow : OpenClaim := { program := "ytmbnloccmnclnaa", sum := "78d854db4795cdb14e927febf2240eaa2514dfd6b8aa2e5e94ad3865a75b5268", func := "loop.example/g00037/laws.FnExactLayout", spec := "fnExactLayout", inPlace := ["internal/bytealg.IndexByteString", "internal/bytealg.IndexString", "internal/abi.NoEscape", "internal/bytealg.MakeNoZero"], unfollowed := true, recurses := true, named := ["internal/bytealg.MaxLen"], apart := false }
def FnExactLayoutSaid : Prop := fnExactLayoutRow.holds Try.pinned (OpenSpec.ofChange fnExactLayoutSpec)

/-- ITS FALSE NEIGHBOUR: 'it returns false'. Refute it at one input. -/
def fnExactLayoutWrong : ChangeSpec := { name := "fnExactLayout", fn := fun _ => fun
  | [d1, d2] => { results := [.lit (.bool false)], args := [d1, d2] }
  | _ => none }
def FnExactLayoutWrongFalsely : Prop := fnExactLayoutRow.holds Try.pinned (OpenSpec.ofChange fnExactLayoutWrong)

/-- 'laws.FnExactGrammarOK': WHATEVER THE INPUT: true; the input reads as it did. -/
def fnExactGrammarOKSpec : ChangeSpec := { name := "fnExactGrammarOK", fn := fun _ => fun
  | [d] => { results := [.lit (.bool true)], args := [d] }
  | _ => none }
def fnExactGrammarOKRow : OpenClaim := { program := "ytmbnloccmnclnaa", sum := "78d854db4795cdb14e927febf2240eaa2514dfd6b8aa2e5e94ad3865a75b5268", func := "loop.example/g00037/laws.FnExactGrammarOK", spec := "fnExactGrammarOK", recurses := true, apart := false }
def FnExactGrammarOKSaid : Prop := fnExactGrammarOKRow.holds Try.pinned (OpenSpec.ofChange fnExactGrammarOKSpec)

/-- ITS FALSE NEIGHBOUR: 'it returns false'. Refute it at one input. -/
def fnExactGrammarOKWrong : ChangeSpec := { name := "fnExactGrammarOK", fn := fun _ => fun
  | [d] => { results := [.lit (.bool false)], args := [d] }
  | _ => none }
def FnExactGrammarOKWrongFalsely : Prop := fnExactGrammarOKRow.holds Try.pinned (OpenSpec.ofChange fnExactGrammarOKWrong)

/-- 'laws.FnExactShortest': WHATEVER THE INPUT: true; the input reads as it did. -/
def fnExactShortestSpec : ChangeSpec := { name := "fnExactShortest", fn := fun _ => fun
  | [d1, d2] => { results := [.lit (.bool true)], args := [d1, d2] }
  | _ => none }
def fnExactShortestRow : OpenClaim := { program := "ytmbnloccmnclnaa", sum := "78d854db4795cdb14e927febf2240eaa2514dfd6b8aa2e5e94ad3865a75b5268", func := "loop.example/g00037/laws.FnExactShortest", spec := "fnExactShortest", unfollowed := true, recurses := true, apart := false }
def FnExactShortestSaid : Prop := fnExactShortestRow.holds Try.pinned (OpenSpec.ofChange fnExactShortestSpec)

/-- ITS FALSE NEIGHBOUR: 'it returns false'. Refute it at one input. -/
def fnExactShortestWrong : ChangeSpec := { name := "fnExactShortest", fn := fun _ => fun
  | [d1, d2] => { results := [.lit (.bool false)], args := [d1, d2] }
  | _ => none }
def FnExactShortestWrongFalsely : Prop := fnExactShortestRow.holds Try.pinned (OpenSpec.ofChange fnExactShortestWrong)

/-- 'laws.FnExactUnify': WHATEVER THE INPUT: true; the input reads as it did. -/
def fnExactUnifySpec : ChangeSpec := { name := "fnExactUnify", fn := fun _ => fun
  | [d] => { results := [.lit (.bool true)], args := [d] }
  | _ => none }
def fnExactUnifyRow : OpenClaim := { program := "ytmbnloccmnclnaa", sum := "78d854db4795cdb14e927febf2240eaa2514dfd6b8aa2e5e94ad3865a75b5268", func := "loop.example/g00037/laws.FnExactUnify", spec := "fnExactUnify", recurses := true, loops := true, apart := false }
def FnExactUnifySaid : Prop := fnExactUnifyRow.holds Try.pinned (OpenSpec.ofChange fnExactUnifySpec)

/-- ITS FALSE NEIGHBOUR: 'it returns false'. Refute it at one input. -/
def fnExactUnifyWrong : ChangeSpec := { name := "fnExactUnify", fn := fun _ => fun
  | [d] => { results := [.lit (.bool false)], args := [d] }
  | _ => none }
def FnExactUnifyWrongFalsely : Prop := fnExactUnifyRow.holds Try.pinned (OpenSpec.ofChange fnExactUnifyWrong)

/- THE SECOND FORM. 'bulk': how many values and letters a reading holds, each counted each time it is reached (what is shared counts as often as it is met; a slice's spare places count too). A statement '..UptoSaid' is the law's where the arguments, and the package variables that the reading takes, are together of bulk at most 1048576: NARROWER than '..Said'. Prove '..Said' where nothing that the law and all that it calls make is longer than what came in: it says more and counts as full. Else prove '..UptoSaid'. A law counts once. -/
mutual
def uptoBulk {H : Type} : DataW H → Nat
  | .lit (.string bytes) => bytes.length + 1
  | .lit _ => 1
  | .nil => 1
  | .ptr d => uptoBulk d + 1
  | .slice elems spare => uptoBulkAll elems + uptoBulkAll spare + 1
  | .agg parts => uptoBulkAll parts + 1
  | .iface _ d => uptoBulk d + 1
  | .map entries => uptoBulkEntries entries + 1
  | .held _ => 1
def uptoBulkAll {H : Type} : List (DataW H) → Nat
  | [] => 0
  | d :: r => uptoBulk d + uptoBulkAll r
def uptoBulkEntries {H : Type} : List (Lit × DataW H) → Nat
  | [] => 0
  | x :: r => uptoBulkEntry x + uptoBulkEntries r
def uptoBulkEntry {H : Type} : Lit × DataW H → Nat
  | (.string bytes, d) => bytes.length + uptoBulk d + 1
  | (_, d) => uptoBulk d + 1
 end
def uptoSmall : (H : Type) → List (DataW H) → Bool := fun _ ds => decide (uptoBulkAll ds ≤ 1048576)
def OpenSpec.upto (s : _root_.Go.ChangeSpec) : _root_.Go.OpenSpec := { _root_.Go.OpenSpec.ofChange s with cond := some uptoSmall }

/-- 'laws.FnExactCyclic', WHERE WHAT IT READS IS OF BULK AT MOST 1048576: true; the input reads as it did. -/
def fnExactCyclicUptoRow : OpenClaim := { program := "ytmbnloccmnclnaa", sum := "78d854db4795cdb14e927febf2240eaa2514dfd6b8aa2e5e94ad3865a75b5268", func := "loop.example/g00037/laws.FnExactCyclic", spec := "fnExactCyclic", unfollowed := true, recurses := true, apart := false, narrowed := true }
def FnExactCyclicUptoSaid : Prop := fnExactCyclicUptoRow.holds Try.pinned (OpenSpec.upto fnExactCyclicSpec)

/-- 'laws.FnExactSet', WHERE WHAT IT READS IS OF BULK AT MOST 1048576: true; the input reads as it did. -/
def fnExactSetUptoRow : OpenClaim := { program := "ytmbnloccmnclnaa", sum := "78d854db4795cdb14e927febf2240eaa2514dfd6b8aa2e5e94ad3865a75b5268", func := "loop.example/g00037/laws.FnExactSet", spec := "fnExactSet", inPlace := ["internal/bytealg.IndexByteString", "internal/bytealg.IndexString", "internal/abi.NoEscape", "internal/bytealg.MakeNoZero"], unfollowed := true, recurses := true, named := ["internal/bytealg.MaxLen"], apart := false, narrowed := true }
def FnExactSetUptoSaid : Prop := fnExactSetUptoRow.holds Try.pinned (OpenSpec.upto fnExactSetSpec)

/-- 'laws.FnExactTerminals', WHERE WHAT IT READS IS OF BULK AT MOST 1048576: true; the input reads as it did. -/
def fnExactTerminalsUptoRow : OpenClaim := { program := "ytmbnloccmnclnaa", sum := "78d854db4795cdb14e927febf2240eaa2514dfd6b8aa2e5e94ad3865a75b5268", func := "loop.example/g00037/laws.FnExactTerminals", spec := "fnExactTerminals", apart := false, narrowed := true }
def FnExactTerminalsUptoSaid : Prop := fnExactTerminalsUptoRow.holds Try.pinned (OpenSpec.upto fnExactTerminalsSpec)

/-- 'laws.FnExactScopesOf', WHERE WHAT IT READS IS OF BULK AT MOST 1048576: true; the input reads as it did. -/
def fnExactScopesOfUptoRow : OpenClaim := { program := "ytmbnloccmnclnaa", sum := "78d854db4795cdb14e927febf2240eaa2514dfd6b8aa2e5e94ad3865a75b5268", func := "loop.example/g00037/laws.FnExactScopesOf", spec := "fnExactScopesOf", unfollowed := true, recurses := true, loops := true, apart := false, narrowed := true }
def FnExactScopesOfUptoSaid : Prop := fnExactScopesOfUptoRow.holds Try.pinned (OpenSpec.upto fnExactScopesOfSpec)

/-- 'laws.FnExactLayout', WHERE WHAT IT READS IS OF BULK AT MOST 1048576: true; the input reads as it did. -/
def fnExactLayoutUptoRow : OpenClaim := { program := "ytmbnloccmnclnaa", sum := "78d854db4795cdb14e927febf2240eaa2514dfd6b8aa2e5e94ad3865a75b5268", func := "loop.example/g00037/laws.FnExactLayout", spec := "fnExactLayout", inPlace := ["internal/bytealg.IndexByteString", "internal/bytealg.IndexString", "internal/abi.NoEscape", "internal/bytealg.MakeNoZero"], unfollowed := true, recurses := true, named := ["internal/bytealg.MaxLen"], apart := false, narrowed := true }
def FnExactLayoutUptoSaid : Prop := fnExactLayoutUptoRow.holds Try.pinned (OpenSpec.upto fnExactLayoutSpec)

/-- 'laws.FnExactGrammarOK', WHERE WHAT IT READS IS OF BULK AT MOST 1048576: true; the input reads as it did. -/
def fnExactGrammarOKUptoRow : OpenClaim := { program := "ytmbnloccmnclnaa", sum := "78d854db4795cdb14e927febf2240eaa2514dfd6b8aa2e5e94ad3865a75b5268", func := "loop.example/g00037/laws.FnExactGrammarOK", spec := "fnExactGrammarOK", recurses := true, apart := false, narrowed := true }
def FnExactGrammarOKUptoSaid : Prop := fnExactGrammarOKUptoRow.holds Try.pinned (OpenSpec.upto fnExactGrammarOKSpec)

/-- 'laws.FnExactShortest', WHERE WHAT IT READS IS OF BULK AT MOST 1048576: true; the input reads as it did. -/
def fnExactShortestUptoRow : OpenClaim := { program := "ytmbnloccmnclnaa", sum := "78d854db4795cdb14e927febf2240eaa2514dfd6b8aa2e5e94ad3865a75b5268", func := "loop.example/g00037/laws.FnExactShortest", spec := "fnExactShortest", unfollowed := true, recurses := true, apart := false, narrowed := true }
def FnExactShortestUptoSaid : Prop := fnExactShortestUptoRow.holds Try.pinned (OpenSpec.upto fnExactShortestSpec)

/-- 'laws.FnExactUnify', WHERE WHAT IT READS IS OF BULK AT MOST 1048576: true; the input reads as it did. -/
def fnExactUnifyUptoRow : OpenClaim := { program := "ytmbnloccmnclnaa", sum := "78d854db4795cdb14e927febf2240eaa2514dfd6b8aa2e5e94ad3865a75b5268", func := "loop.example/g00037/laws.FnExactUnify", spec := "fnExactUnify", recurses := true, loops := true, apart := false, narrowed := true }
def FnExactUnifyUptoSaid : Prop := fnExactUnifyUptoRow.holds Try.pinned (OpenSpec.upto fnExactUnifySpec)

end Rows
end Go.Proofs.Ytmbnloccmnclnaa
