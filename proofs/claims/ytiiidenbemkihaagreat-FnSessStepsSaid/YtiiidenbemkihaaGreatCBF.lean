/-
  FnSessSteps: closed facts of its row, one by one. No statement is proved here.
-/
import Derived.Test.YtiiidenbemkihaaGreatAR
namespace Go.Proofs.YtiiidenbemkihaaGreat
open Go
section
open Go Go.ChangeShapes Go.WideShapes Go.ChangeAt Go.RowKit
theorem haz:(Rows.fnSessStepsRow.wf (OpenSpec.ofChange Rows.fnSessStepsSpec))=true:=by kernel_rfl
theorem iaz:((Tryz.f13).params.all (Tryz.prog.readableRec ·))=true:=by kernel_rfl
theorem jaz:(namedTie Tryz.prog Rows.fnSessStepsRow.named Rows.fnSessStepsSpec.vars)=true:=by kernel_rfl
theorem kaz:((Rows.fnSessStepsRow.stops == []))=true:=by kernel_rfl
theorem laz:((Rows.fnSessStepsRow.knobs == []))=true:=by kernel_rfl
theorem maz:((Rows.fnSessStepsRow.inPlace == Tryz.prog.inPlace 13))=true:=by kernel_rfl
theorem naz:((Rows.fnSessStepsRow.unfollowed == Tryz.prog.unfollowed 13))=true:=by kernel_rfl
theorem oaz:((Rows.fnSessStepsRow.recurses == Tryz.prog.recurses 13))=true:=by kernel_rfl
theorem paz:((Rows.fnSessStepsRow.named == Tryz.prog.varsNamed 13))=true:=by kernel_rfl
theorem qaz:((Rows.fnSessStepsRow.maps == ((Tryz.f13).params.toList++Rows.fnSessStepsSpec.plain.varTypes Tryz.prog).any (Tryz.prog.mapsRec ·)))=true:=by kernel_rfl
theorem raz:((Rows.fnSessStepsRow.ifaces == ((Tryz.f13).params.toList++Rows.fnSessStepsSpec.plain.varTypes Tryz.prog).any (Tryz.prog.ifacesRec ·)))=true:=by kernel_rfl
theorem saz:((Rows.fnSessStepsRow.mapsOut == Tryz.prog.mapsAmong (Tryz.f13).resultTypes.toList))=true:=by kernel_rfl
theorem taz:((Rows.fnSessStepsRow.loops == ((Tryz.f13).params.toList++Rows.fnSessStepsSpec.plain.varTypes Tryz.prog).any (Tryz.prog.loopsFrom ·)))=true:=by kernel_rfl
theorem uaz:((Rows.fnSessStepsRow.wideKeys == ((Tryz.f13).params.toList++Rows.fnSessStepsSpec.plain.varTypes Tryz.prog++(Tryz.f13).resultTypes.toList).any (Tryz.prog.wideKeysFrom ·)))=true:=by kernel_rfl
theorem vaz:(Rows.fnSessStepsSpec.vars.all (Tryz.prog.varReadable ·))=true:=by kernel_rfl
theorem waz:((Tryz.f13).resultTypes.all (λt=>Tryz.prog.readableRec t&&decide (t < Tryz.prog.types.size)))=true:=by kernel_rfl
theorem xaz:((Rows.fnSessStepsRow.ifacesOut == (Tryz.f13).resultTypes.toList.any (Tryz.prog.ifacesRec ·)))=true:=by kernel_rfl
theorem yaz:((Rows.fnSessStepsRow.loopsOut == (Tryz.f13).resultTypes.toList.any (Tryz.prog.loopsFrom ·)))=true:=by kernel_rfl
theorem zaz:(Rows.fnSessStepsRow.shortTexts.isNone)=true:=by kernel_rfl
theorem Aaz:((Tryz.prog.make == some Rows.fnSessStepsRow.make))=true:=by kernel_rfl
theorem Baz:((Rows.fnSessStepsRow.kinds == (if Rows.fnSessStepsRow.domain.isEmpty then [] else(Tryz.f13).params.toList.map λt=>match Tryz.prog.underlying t with|some (.int k)=>some k|_=>none)))=true:=by kernel_rfl
theorem Caz:((Rows.fnSessStepsRow.pinned == Rows.fnSessStepsRow.pinnedBy))=true:=by kernel_rfl
theorem Daz:((Rows.fnSessStepsRow.veiled == ((Tryz.f13).params.toList++Rows.fnSessStepsSpec.plain.varTypes Tryz.prog++(Tryz.f13).resultTypes.toList).any (Tryz.prog.veiledRec ·)))=true:=by kernel_rfl
theorem Eaz:(Rows.fnSessStepsRow.veiledFits Tryz.prog (Tryz.f13).params.toList ((Tryz.f13).params.toList++Rows.fnSessStepsSpec.plain.varTypes Tryz.prog++(Tryz.f13).resultTypes.toList))=true:=by kernel_rfl
end
end Go.Proofs.YtiiidenbemkihaaGreat
