/-
  FnSessNot: closed facts of its row, one by one. No statement is proved here.
-/
import Derived.Test.YtiiidenbemkihaaGreatAR

namespace Go.Proofs.YtiiidenbemkihaaGreat
open Go Go.ChangeShapes Go.WideShapes Go.ChangeAt Go.RowKit
theorem UaL:(Rows.fnSessNotRow.wf (OpenSpec.ofChange Rows.fnSessNotSpec))=true:=by kernel_rfl
theorem VaL:((Tryz.f3).params.all (Tryz.prog.readableRec ·))=true:=by kernel_rfl
theorem WaL:(namedTie Tryz.prog Rows.fnSessNotRow.named Rows.fnSessNotSpec.vars)=true:=by kernel_rfl
theorem XaL:((Rows.fnSessNotRow.stops == []))=true:=by kernel_rfl
theorem YaL:((Rows.fnSessNotRow.knobs == []))=true:=by kernel_rfl
theorem ZaL:((Rows.fnSessNotRow.inPlace == Tryz.prog.inPlace 3))=true:=by kernel_rfl
theorem aaM:((Rows.fnSessNotRow.unfollowed == Tryz.prog.unfollowed 3))=true:=by kernel_rfl
theorem baM:((Rows.fnSessNotRow.recurses == Tryz.prog.recurses 3))=true:=by kernel_rfl
theorem caM:((Rows.fnSessNotRow.named == Tryz.prog.varsNamed 3))=true:=by kernel_rfl
theorem daM:((Rows.fnSessNotRow.maps == ((Tryz.f3).params.toList++Rows.fnSessNotSpec.plain.varTypes Tryz.prog).any (Tryz.prog.mapsRec ·)))=true:=by kernel_rfl
theorem eaM:((Rows.fnSessNotRow.ifaces == ((Tryz.f3).params.toList++Rows.fnSessNotSpec.plain.varTypes Tryz.prog).any (Tryz.prog.ifacesRec ·)))=true:=by kernel_rfl
theorem faM:((Rows.fnSessNotRow.mapsOut == Tryz.prog.mapsAmong (Tryz.f3).resultTypes.toList))=true:=by kernel_rfl
theorem gaM:((Rows.fnSessNotRow.loops == ((Tryz.f3).params.toList++Rows.fnSessNotSpec.plain.varTypes Tryz.prog).any (Tryz.prog.loopsFrom ·)))=true:=by kernel_rfl
theorem haM:((Rows.fnSessNotRow.wideKeys == ((Tryz.f3).params.toList++Rows.fnSessNotSpec.plain.varTypes Tryz.prog++(Tryz.f3).resultTypes.toList).any (Tryz.prog.wideKeysFrom ·)))=true:=by kernel_rfl
theorem iaM:(Rows.fnSessNotSpec.vars.all (Tryz.prog.varReadable ·))=true:=by kernel_rfl
theorem jaM:((Tryz.f3).resultTypes.all (λt=>Tryz.prog.readableRec t&&decide (t < Tryz.prog.types.size)))=true:=by kernel_rfl
theorem kaM:((Rows.fnSessNotRow.ifacesOut == (Tryz.f3).resultTypes.toList.any (Tryz.prog.ifacesRec ·)))=true:=by kernel_rfl
theorem laM:((Rows.fnSessNotRow.loopsOut == (Tryz.f3).resultTypes.toList.any (Tryz.prog.loopsFrom ·)))=true:=by kernel_rfl
theorem maM:(Rows.fnSessNotRow.shortTexts.isNone)=true:=by kernel_rfl
theorem naM:((Tryz.prog.make == some Rows.fnSessNotRow.make))=true:=by kernel_rfl
theorem oaM:((Rows.fnSessNotRow.kinds == (if Rows.fnSessNotRow.domain.isEmpty then [] else(Tryz.f3).params.toList.map λt=>match Tryz.prog.underlying t with|some (.int k)=>some k|_=>none)))=true:=by kernel_rfl
theorem paM:((Rows.fnSessNotRow.pinned == Rows.fnSessNotRow.pinnedBy))=true:=by kernel_rfl
theorem qaM:((Rows.fnSessNotRow.veiled == ((Tryz.f3).params.toList++Rows.fnSessNotSpec.plain.varTypes Tryz.prog++(Tryz.f3).resultTypes.toList).any (Tryz.prog.veiledRec ·)))=true:=by kernel_rfl
theorem raM:(Rows.fnSessNotRow.veiledFits Tryz.prog (Tryz.f3).params.toList ((Tryz.f3).params.toList++Rows.fnSessNotSpec.plain.varTypes Tryz.prog++(Tryz.f3).resultTypes.toList))=true:=by kernel_rfl
end Go.Proofs.YtiiidenbemkihaaGreat
