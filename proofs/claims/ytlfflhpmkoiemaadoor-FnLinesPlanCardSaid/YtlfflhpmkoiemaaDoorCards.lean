/-
  DERIVED. GIVEN WITH THE SEED: THE CARDS: each row of YtlfflhpmkoiemaaDoorRows.lean that lists a variable, with what it lists TIED to the program's text (the seventh form; the later family's looks); each row that meets fmt, with fmt's text TOLD by the authors' own Lean function (tested against real Go, not proved from fmt's source: count such statements apart). THE CARD IS WHAT COUNTS. Prove the row's statement (the work); the ties are given (YtlfflhpmkoiemaaDoorTie.lean); close each card by the builder's one call (the guide's Derived/Test/ToyasCard.lean, 'card_holds'). Laid BY PROGRAM, IN A SANDBOX (cutbox-door.mjs). By AI agents, Wed Nov 11 2026. No macro, syntax, notation, axiom, sorry.
-/
import Derived.Test.YtlfflhpmkoiemaaDoorRows
import GoSem.ClaimSeven
namespace Go.Proofs.YtlfflhpmkoiemaaDoor
namespace Rows

/-- THE TIED CARD OF 'laws.FnPlanText'. -/
def fnPlanTextCard : Claim7 := { stood := { row := fnPlanTextRow, standIns := [], harness := (true, "81f5c41685e089390125f371c84d382b5e8c2ec48e6bfe08efe80b1a9110671e"), looks := false }, kinds := [], alts := [], laidByText := true, laidKinds := [.data, .data, .data, .data, .pinned], laidTests := true, laidLooks := .later }
def FnPlanTextCardSaid : Prop := Claim7.holds Tryd.pinned (.plain (OpenSpec.ofChange fnPlanTextSpec)) fnPlanTextCard

/-- THE TIED CARD OF 'laws.FnLinesPlan'. -/
def fnLinesPlanCard : Claim7 := { stood := { row := fnLinesPlanRow, standIns := [], harness := (true, "81f5c41685e089390125f371c84d382b5e8c2ec48e6bfe08efe80b1a9110671e"), looks := false }, kinds := [], alts := [], laidByText := true, laidKinds := [.data, .data, .data, .data, .pinned], laidTests := true, laidLooks := .later }
def FnLinesPlanCardSaid : Prop := Claim7.holds Tryd.pinned (.plain (OpenSpec.ofChange fnLinesPlanSpec)) fnLinesPlanCard

/-- THE TIED CARD OF 'laws.FnExactLinesPlan'. -/
def fnExactLinesPlanCard : Claim7 := { stood := { row := fnExactLinesPlanRow, standIns := [], harness := (true, "81f5c41685e089390125f371c84d382b5e8c2ec48e6bfe08efe80b1a9110671e"), looks := false }, kinds := [], alts := [], laidByText := true, laidKinds := [.data, .data, .data, .data, .pinned], laidTests := true, laidLooks := .later }
def FnExactLinesPlanCardSaid : Prop := Claim7.holds Tryd.pinned (.plain (OpenSpec.ofChange fnExactLinesPlanSpec)) fnExactLinesPlanCard

/-- THE SECOND FORM's CARD OF 'laws.FnPlanText'. -/
def fnPlanTextUptoCard : Claim7 := { stood := { row := fnPlanTextUptoRow, standIns := [], harness := (true, "81f5c41685e089390125f371c84d382b5e8c2ec48e6bfe08efe80b1a9110671e"), looks := false }, kinds := [], alts := [], laidByText := true, laidKinds := [.data, .data, .data, .data, .pinned], laidTests := true, laidLooks := .later }
def FnPlanTextUptoCardSaid : Prop := Claim7.holds Tryd.pinned (.plain (OpenSpec.upto fnPlanTextSpec)) fnPlanTextUptoCard

/-- THE SECOND FORM's CARD OF 'laws.FnLinesPlan'. -/
def fnLinesPlanUptoCard : Claim7 := { stood := { row := fnLinesPlanUptoRow, standIns := [], harness := (true, "81f5c41685e089390125f371c84d382b5e8c2ec48e6bfe08efe80b1a9110671e"), looks := false }, kinds := [], alts := [], laidByText := true, laidKinds := [.data, .data, .data, .data, .pinned], laidTests := true, laidLooks := .later }
def FnLinesPlanUptoCardSaid : Prop := Claim7.holds Tryd.pinned (.plain (OpenSpec.upto fnLinesPlanSpec)) fnLinesPlanUptoCard

/-- THE SECOND FORM's CARD OF 'laws.FnExactLinesPlan'. -/
def fnExactLinesPlanUptoCard : Claim7 := { stood := { row := fnExactLinesPlanUptoRow, standIns := [], harness := (true, "81f5c41685e089390125f371c84d382b5e8c2ec48e6bfe08efe80b1a9110671e"), looks := false }, kinds := [], alts := [], laidByText := true, laidKinds := [.data, .data, .data, .data, .pinned], laidTests := true, laidLooks := .later }
def FnExactLinesPlanUptoCardSaid : Prop := Claim7.holds Tryd.pinned (.plain (OpenSpec.upto fnExactLinesPlanSpec)) fnExactLinesPlanUptoCard
end Rows
end Go.Proofs.YtlfflhpmkoiemaaDoor
