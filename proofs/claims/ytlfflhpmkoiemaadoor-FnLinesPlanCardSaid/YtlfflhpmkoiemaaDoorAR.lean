/-
  Closed facts of the program, one by one. No statement is proved here.
-/
import Derived.Test.YtlfflhpmkoiemaaDoorA2
import Derived.Test.YtlfflhpmkoiemaaDoorRows
namespace Go.Proofs.YtlfflhpmkoiemaaDoor
open Go
section
open Go Go.ChangeShapes Go.WideShapes Go.ChangeAt Go.RowKit
theorem own:ownKnob Tryd.prog.godebug=none:=by kernel_rfl
theorem pf2:(laidOutB Tryd.prog)=true:=by kernel_rfl
theorem pf3:(mapsRowed Tryd.prog)=true:=by kernel_rfl
theorem pf7:((Tryd.prog.stops == []))=true:=by kernel_rfl
theorem pf9:((Tryd.prog.stopKnobs == []))=true:=by kernel_rfl
theorem pr:((true == Tryd.prog.plainKeys))=true:=by kernel_rfl
theorem qr:(Tryd.prog.stopsHeard)=true:=by kernel_rfl
theorem ur:(Tryd.prog.mayEnter)=true:=by kernel_rfl
theorem vr:((false == Tryd.prog.liftsFinal))=true:=by kernel_rfl
end
end Go.Proofs.YtlfflhpmkoiemaaDoor
