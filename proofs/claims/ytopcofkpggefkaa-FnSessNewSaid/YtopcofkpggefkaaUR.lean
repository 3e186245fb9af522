/-
  Closed facts of the program, one by one. No statement is proved here.
-/
import Derived.Test.YtopcofkpggefkaaU4
import Derived.Test.YtopcofkpggefkaaRows

namespace Go.Proofs.Ytopcofkpggefkaa
open Go Go.ChangeShapes Go.WideShapes Go.ChangeAt Go.RowKit

theorem own : ownKnob Try.prog.godebug = none := by kernel_rfl
theorem pf2 : (laidOutB Try.prog) = true := by kernel_rfl
theorem pf3 : (mapsRowed Try.prog) = true := by kernel_rfl
theorem pf7 : ((Try.prog.stops == [])) = true := by kernel_rfl
theorem pf9 : ((Try.prog.stopKnobs == [])) = true := by kernel_rfl
theorem pf23 : ((false == Try.prog.plainKeys)) = true := by kernel_rfl
theorem pf25 : (Try.prog.stopsHeard) = true := by kernel_rfl
theorem pf26 : (Try.prog.mayEnter) = true := by kernel_rfl
theorem pf27 : ((false == Try.prog.liftsFinal)) = true := by kernel_rfl
end Go.Proofs.Ytopcofkpggefkaa
