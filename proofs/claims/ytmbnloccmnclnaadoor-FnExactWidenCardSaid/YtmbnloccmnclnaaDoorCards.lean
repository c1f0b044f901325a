/-
  DERIVED. GIVEN WITH THE SEED: THE CARDS: each row of YtmbnloccmnclnaaDoorRows.lean that lists a variable, with what it lists TIED to the program's text (the seventh form; the later family's looks); each row that meets fmt, with fmt's text TOLD by the authors' own Lean function (tested against real Go, not proved from fmt's source: count such statements apart). THE CARD IS WHAT COUNTS. Prove the row's statement (the work); the ties are given (YtmbnloccmnclnaaDoorTie.lean); close each card by the builder's one call (the guide's Derived/Test/ToyasCard.lean, 'card_holds'). Laid BY PROGRAM, IN A SANDBOX (cutbox-door.mjs). By AI agents, Wed Nov 11 2026. No macro, syntax, notation, axiom, sorry.
-/
import Derived.Test.YtmbnloccmnclnaaDoorRows
import GoSem.ClaimSeven
namespace Go.Proofs.YtmbnloccmnclnaaDoor
namespace Rows

/-- THE TIED CARD OF 'laws.FnExactShrink'. -/
def fnExactShrinkCard : Claim7 := { stood := { row := fnExactShrinkRow, standIns := [], harness := (true, "c2ce83769600a17b3babd316cb27d94a08d763fbba03c25d564c0c1712c7b886"), looks := false }, kinds := [], alts := [], laidByText := true, laidKinds := [.data, .data, .data], laidTests := true, laidLooks := .later }
def FnExactShrinkCardSaid : Prop := Claim7.holds Tryd.pinned (.plain (OpenSpec.ofChange fnExactShrinkSpec)) fnExactShrinkCard

/-- THE TIED CARD OF 'laws.FnExactShare'. -/
def fnExactShareCard : Claim7 := { stood := { row := fnExactShareRow, standIns := [], harness := (true, "c2ce83769600a17b3babd316cb27d94a08d763fbba03c25d564c0c1712c7b886"), looks := false }, kinds := [], alts := [], laidByText := true, laidKinds := [.data, .data, .data], laidTests := true, laidLooks := .later }
def FnExactShareCardSaid : Prop := Claim7.holds Tryd.pinned (.plain (OpenSpec.ofChange fnExactShareSpec)) fnExactShareCard

/-- THE TIED CARD OF 'laws.FnExactWiden'. -/
def fnExactWidenCard : Claim7 := { stood := { row := fnExactWidenRow, standIns := [], harness := (true, "c2ce83769600a17b3babd316cb27d94a08d763fbba03c25d564c0c1712c7b886"), looks := false }, kinds := [], alts := [], laidByText := true, laidKinds := [.data, .data, .data], laidTests := true, laidLooks := .later }
def FnExactWidenCardSaid : Prop := Claim7.holds Tryd.pinned (.plain (OpenSpec.ofChange fnExactWidenSpec)) fnExactWidenCard

/-- THE TIED CARD OF 'laws.FnExactUnshare'. -/
def fnExactUnshareCard : Claim7 := { stood := { row := fnExactUnshareRow, standIns := [], harness := (true, "c2ce83769600a17b3babd316cb27d94a08d763fbba03c25d564c0c1712c7b886"), looks := false }, kinds := [], alts := [], laidByText := true, laidKinds := [.data, .data, .data], laidTests := true, laidLooks := .later }
def FnExactUnshareCardSaid : Prop := Claim7.holds Tryd.pinned (.plain (OpenSpec.ofChange fnExactUnshareSpec)) fnExactUnshareCard

/-- THE SECOND FORM's CARD OF 'laws.FnExactShrink'. -/
def fnExactShrinkUptoCard : Claim7 := { stood := { row := fnExactShrinkUptoRow, standIns := [], harness := (true, "c2ce83769600a17b3babd316cb27d94a08d763fbba03c25d564c0c1712c7b886"), looks := false }, kinds := [], alts := [], laidByText := true, laidKinds := [.data, .data, .data], laidTests := true, laidLooks := .later }
def FnExactShrinkUptoCardSaid : Prop := Claim7.holds Tryd.pinned (.plain (OpenSpec.upto fnExactShrinkSpec)) fnExactShrinkUptoCard

/-- THE SECOND FORM's CARD OF 'laws.FnExactShare'. -/
def fnExactShareUptoCard : Claim7 := { stood := { row := fnExactShareUptoRow, standIns := [], harness := (true, "c2ce83769600a17b3babd316cb27d94a08d763fbba03c25d564c0c1712c7b886"), looks := false }, kinds := [], alts := [], laidByText := true, laidKinds := [.data, .data, .data], laidTests := true, laidLooks := .later }
def FnExactShareUptoCardSaid : Prop := Claim7.holds Tryd.pinned (.plain (OpenSpec.upto fnExactShareSpec)) fnExactShareUptoCard

/-- THE SECOND FORM's CARD OF 'laws.FnExactWiden'. -/
def fnExactWidenUptoCard : Claim7 := { stood := { row := fnExactWidenUptoRow, standIns := [], harness := (true, "c2ce83769600a17b3babd316cb27d94a08d763fbba03c25d564c0c1712c7b886"), looks := false }, kinds := [], alts := [], laidByText := true, laidKinds := [.data, .data, .data], laidTests := true, laidLooks := .later }
def FnExactWidenUptoCardSaid : Prop := Claim7.holds Tryd.pinned (.plain (OpenSpec.upto fnExactWidenSpec)) fnExactWidenUptoCard

/-- THE SECOND FORM's CARD OF 'laws.FnExactUnshare'. -/
def fnExactUnshareUptoCard : Claim7 := { stood := { row := fnExactUnshareUptoRow, standIns := [], harness := (true, "c2ce83769600a17b3babd316cb27d94a08d763fbba03c25d564c0c1712c7b886"), looks := false }, kinds := [], alts := [], laidByText := true, laidKinds := [.data, .data, .data], laidTests := true, laidLooks := .later }
def FnExactUnshareUptoCardSaid : Prop := Claim7.holds Tryd.pinned (.plain (OpenSpec.upto fnExactUnshareSpec)) fnExactUnshareUptoCard
end Rows
end Go.Proofs.YtmbnloccmnclnaaDoor
