/-
  Closed facts of the program, one by one. No statement is proved here.
-/
import Derived.Test.YthfkpijcajdnhaaGreatA3
import Derived.Test.YthfkpijcajdnhaaGreatRows

namespace Go.Proofs.YthfkpijcajdnhaaGreat
open Go Go.ChangeShapes Go.WideShapes Go.ChangeAt Go.RowKit
theorem own:ownKnob Tryz.prog.godebug=none:=by kernel_rfl
theorem pf2:(laidOutB Tryz.prog)=true:=by kernel_rfl
theorem pf3:(mapsRowed Tryz.prog)=true:=by kernel_rfl
theorem pf7:((Tryz.prog.stops == []))=true:=by kernel_rfl
theorem pf9:((Tryz.prog.stopKnobs == []))=true:=by kernel_rfl
theorem iah:((false == Tryz.prog.plainKeys))=true:=by kernel_rfl
theorem jah:(Tryz.prog.stopsHeard)=true:=by kernel_rfl
theorem kah:(Tryz.prog.mayEnter)=true:=by kernel_rfl
theorem lah:((false == Tryz.prog.liftsFinal))=true:=by kernel_rfl
end Go.Proofs.YthfkpijcajdnhaaGreat
