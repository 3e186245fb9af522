/-
  DERIVED. GIVEN WITH THE SEED: THE CARDS: each row of YteogppapbognjaaGreatDoorRows.lean that lists a variable, with what it lists TIED to the program's text (the seventh form; the later family's looks); each row that meets fmt, with fmt's text TOLD by the authors' own Lean function (tested against real Go, not proved from fmt's source: count such statements apart). THE CARD IS WHAT COUNTS. Prove the row's statement (the work); the ties are given (YteogppapbognjaaGreatDoorTie.lean); close each card by the builder's one call (the guide's Derived/Test/ToyasCard.lean, 'card_holds'). Laid BY PROGRAM, IN A SANDBOX (cutbox-door.mjs). By AI agents, Wed Nov 11 2026. No macro, syntax, notation, axiom, sorry.
-/
import Derived.Test.YteogppapbognjaaGreatDoorRows
import GoSem.ClaimSeven
namespace Go.Proofs.YteogppapbognjaaGreatDoor
namespace Rows

/-- THE TIED CARD OF 'laws.FnLinesNew'. -/
def fnLinesNewCard : Claim7 := { stood := { row := fnLinesNewRow, standIns := [], harness := (true, "048c30497718ef25b79f86b42d7be29d7c8387ad7a897365d42f606f01dcd1a1"), looks := false }, kinds := [], alts := [], laidByText := true, laidKinds := [.data, .data, .data, .data, .pinned], laidTests := true, laidLooks := .later }
def FnLinesNewCardSaid : Prop := Claim7.holds Tryz.pinned (.plain (OpenSpec.ofChange fnLinesNewSpec)) fnLinesNewCard

/-- THE TIED CARD OF 'laws.FnLinesNo'. -/
def fnLinesNoCard : Claim7 := { stood := { row := fnLinesNoRow, standIns := [], harness := (true, "048c30497718ef25b79f86b42d7be29d7c8387ad7a897365d42f606f01dcd1a1"), looks := false }, kinds := [], alts := [], laidByText := true, laidKinds := [.data, .data, .data, .data, .pinned], laidTests := true, laidLooks := .later }
def FnLinesNoCardSaid : Prop := Claim7.holds Tryz.pinned (.plain (OpenSpec.ofChange fnLinesNoSpec)) fnLinesNoCard

/-- THE TIED CARD OF 'laws.FnLinesRun'. -/
def fnLinesRunCard : Claim7 := { stood := { row := fnLinesRunRow, standIns := [], harness := (true, "048c30497718ef25b79f86b42d7be29d7c8387ad7a897365d42f606f01dcd1a1"), looks := false }, kinds := [], alts := [], laidByText := true, laidKinds := [.data, .data, .data, .data, .pinned], laidTests := true, laidLooks := .later }
def FnLinesRunCardSaid : Prop := Claim7.holds Tryz.pinned (.plain (OpenSpec.ofChange fnLinesRunSpec)) fnLinesRunCard

/-- THE TIED CARD OF 'laws.FnLinesBlank'. -/
def fnLinesBlankCard : Claim7 := { stood := { row := fnLinesBlankRow, standIns := [], harness := (true, "048c30497718ef25b79f86b42d7be29d7c8387ad7a897365d42f606f01dcd1a1"), looks := false }, kinds := [], alts := [], laidByText := true, laidKinds := [.data, .data, .data, .data, .pinned], laidTests := true, laidLooks := .later }
def FnLinesBlankCardSaid : Prop := Claim7.holds Tryz.pinned (.plain (OpenSpec.ofChange fnLinesBlankSpec)) fnLinesBlankCard

/-- THE TIED CARD OF 'laws.FnExactLinesRun'. -/
def fnExactLinesRunCard : Claim7 := { stood := { row := fnExactLinesRunRow, standIns := [], harness := (true, "048c30497718ef25b79f86b42d7be29d7c8387ad7a897365d42f606f01dcd1a1"), looks := false }, kinds := [], alts := [], laidByText := true, laidKinds := [.data, .data, .data, .data, .pinned], laidTests := true, laidLooks := .later }
def FnExactLinesRunCardSaid : Prop := Claim7.holds Tryz.pinned (.plain (OpenSpec.ofChange fnExactLinesRunSpec)) fnExactLinesRunCard

/-- THE SECOND FORM's CARD OF 'laws.FnLinesNew'. -/
def fnLinesNewUptoCard : Claim7 := { stood := { row := fnLinesNewUptoRow, standIns := [], harness := (true, "048c30497718ef25b79f86b42d7be29d7c8387ad7a897365d42f606f01dcd1a1"), looks := false }, kinds := [], alts := [], laidByText := true, laidKinds := [.data, .data, .data, .data, .pinned], laidTests := true, laidLooks := .later }
def FnLinesNewUptoCardSaid : Prop := Claim7.holds Tryz.pinned (.plain (OpenSpec.upto fnLinesNewSpec)) fnLinesNewUptoCard

/-- THE SECOND FORM's CARD OF 'laws.FnLinesNo'. -/
def fnLinesNoUptoCard : Claim7 := { stood := { row := fnLinesNoUptoRow, standIns := [], harness := (true, "048c30497718ef25b79f86b42d7be29d7c8387ad7a897365d42f606f01dcd1a1"), looks := false }, kinds := [], alts := [], laidByText := true, laidKinds := [.data, .data, .data, .data, .pinned], laidTests := true, laidLooks := .later }
def FnLinesNoUptoCardSaid : Prop := Claim7.holds Tryz.pinned (.plain (OpenSpec.upto fnLinesNoSpec)) fnLinesNoUptoCard

/-- THE SECOND FORM's CARD OF 'laws.FnLinesRun'. -/
def fnLinesRunUptoCard : Claim7 := { stood := { row := fnLinesRunUptoRow, standIns := [], harness := (true, "048c30497718ef25b79f86b42d7be29d7c8387ad7a897365d42f606f01dcd1a1"), looks := false }, kinds := [], alts := [], laidByText := true, laidKinds := [.data, .data, .data, .data, .pinned], laidTests := true, laidLooks := .later }
def FnLinesRunUptoCardSaid : Prop := Claim7.holds Tryz.pinned (.plain (OpenSpec.upto fnLinesRunSpec)) fnLinesRunUptoCard

/-- THE SECOND FORM's CARD OF 'laws.FnLinesBlank'. -/
def fnLinesBlankUptoCard : Claim7 := { stood := { row := fnLinesBlankUptoRow, standIns := [], harness := (true, "048c30497718ef25b79f86b42d7be29d7c8387ad7a897365d42f606f01dcd1a1"), looks := false }, kinds := [], alts := [], laidByText := true, laidKinds := [.data, .data, .data, .data, .pinned], laidTests := true, laidLooks := .later }
def FnLinesBlankUptoCardSaid : Prop := Claim7.holds Tryz.pinned (.plain (OpenSpec.upto fnLinesBlankSpec)) fnLinesBlankUptoCard

/-- THE SECOND FORM's CARD OF 'laws.FnExactLinesRun'. -/
def fnExactLinesRunUptoCard : Claim7 := { stood := { row := fnExactLinesRunUptoRow, standIns := [], harness := (true, "048c30497718ef25b79f86b42d7be29d7c8387ad7a897365d42f606f01dcd1a1"), looks := false }, kinds := [], alts := [], laidByText := true, laidKinds := [.data, .data, .data, .data, .pinned], laidTests := true, laidLooks := .later }
def FnExactLinesRunUptoCardSaid : Prop := Claim7.holds Tryz.pinned (.plain (OpenSpec.upto fnExactLinesRunSpec)) fnExactLinesRunUptoCard
end Rows
end Go.Proofs.YteogppapbognjaaGreatDoor
