/-
  Closed facts of the program, one by one. No statement is proved here.
-/
import Derived.Test.YtiiidenbemkihaaGreatA3
import Derived.Test.YtiiidenbemkihaaGreatRows
namespace Go.Proofs.YtiiidenbemkihaaGreat
open Go
section
open Go Go.ChangeShapes Go.WideShapes Go.ChangeAt Go.RowKit
theorem own:ownKnob Tryz.prog.godebug=none:=by kernel_rfl
theorem pf2:(laidOutB Tryz.prog)=true:=by kernel_rfl
theorem pf3:(mapsRowed Tryz.prog)=true:=by kernel_rfl
theorem pf7:((Tryz.prog.stops == []))=true:=by kernel_rfl
theorem pf9:((Tryz.prog.stopKnobs == []))=true:=by kernel_rfl
theorem Hah:((false == Tryz.prog.plainKeys))=true:=by kernel_rfl
theorem Iah:(Tryz.prog.stopsHeard)=true:=by kernel_rfl
theorem Jah:(Tryz.prog.mayEnter)=true:=by kernel_rfl
theorem Kah:((false == Tryz.prog.liftsFinal))=true:=by kernel_rfl
end
end Go.Proofs.YtiiidenbemkihaaGreat
