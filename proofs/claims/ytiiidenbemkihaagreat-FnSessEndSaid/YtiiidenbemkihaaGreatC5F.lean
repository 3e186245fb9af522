/-
  FnSessEnd: closed facts of its row, one by one. No statement is proved here.
-/
import Derived.Test.YtiiidenbemkihaaGreatAR

namespace Go.Proofs.YtiiidenbemkihaaGreat
open Go Go.ChangeShapes Go.WideShapes Go.ChangeAt Go.RowKit
theorem WaG:(Rows.fnSessEndRow.wf (OpenSpec.ofChange Rows.fnSessEndSpec))=true:=by kernel_rfl
theorem XaG:((Tryz.f5).params.all (Tryz.prog.readableRec ·))=true:=by kernel_rfl
theorem YaG:(namedTie Tryz.prog Rows.fnSessEndRow.named Rows.fnSessEndSpec.vars)=true:=by kernel_rfl
theorem ZaG:((Rows.fnSessEndRow.stops == []))=true:=by kernel_rfl
theorem aaH:((Rows.fnSessEndRow.knobs == []))=true:=by kernel_rfl
theorem baH:((Rows.fnSessEndRow.inPlace == Tryz.prog.inPlace 5))=true:=by kernel_rfl
theorem caH:((Rows.fnSessEndRow.unfollowed == Tryz.prog.unfollowed 5))=true:=by kernel_rfl
theorem daH:((Rows.fnSessEndRow.recurses == Tryz.prog.recurses 5))=true:=by kernel_rfl
theorem eaH:((Rows.fnSessEndRow.named == Tryz.prog.varsNamed 5))=true:=by kernel_rfl
theorem faH:((Rows.fnSessEndRow.maps == ((Tryz.f5).params.toList++Rows.fnSessEndSpec.plain.varTypes Tryz.prog).any (Tryz.prog.mapsRec ·)))=true:=by kernel_rfl
theorem gaH:((Rows.fnSessEndRow.ifaces == ((Tryz.f5).params.toList++Rows.fnSessEndSpec.plain.varTypes Tryz.prog).any (Tryz.prog.ifacesRec ·)))=true:=by kernel_rfl
theorem haH:((Rows.fnSessEndRow.mapsOut == Tryz.prog.mapsAmong (Tryz.f5).resultTypes.toList))=true:=by kernel_rfl
theorem iaH:((Rows.fnSessEndRow.loops == ((Tryz.f5).params.toList++Rows.fnSessEndSpec.plain.varTypes Tryz.prog).any (Tryz.prog.loopsFrom ·)))=true:=by kernel_rfl
theorem jaH:((Rows.fnSessEndRow.wideKeys == ((Tryz.f5).params.toList++Rows.fnSessEndSpec.plain.varTypes Tryz.prog++(Tryz.f5).resultTypes.toList).any (Tryz.prog.wideKeysFrom ·)))=true:=by kernel_rfl
theorem kaH:(Rows.fnSessEndSpec.vars.all (Tryz.prog.varReadable ·))=true:=by kernel_rfl
theorem laH:((Tryz.f5).resultTypes.all (λt=>Tryz.prog.readableRec t&&decide (t < Tryz.prog.types.size)))=true:=by kernel_rfl
theorem maH:((Rows.fnSessEndRow.ifacesOut == (Tryz.f5).resultTypes.toList.any (Tryz.prog.ifacesRec ·)))=true:=by kernel_rfl
theorem naH:((Rows.fnSessEndRow.loopsOut == (Tryz.f5).resultTypes.toList.any (Tryz.prog.loopsFrom ·)))=true:=by kernel_rfl
theorem oaH:(Rows.fnSessEndRow.shortTexts.isNone)=true:=by kernel_rfl
theorem paH:((Tryz.prog.make == some Rows.fnSessEndRow.make))=true:=by kernel_rfl
theorem qaH:((Rows.fnSessEndRow.kinds == (if Rows.fnSessEndRow.domain.isEmpty then [] else(Tryz.f5).params.toList.map λt=>match Tryz.prog.underlying t with|some (.int k)=>some k|_=>none)))=true:=by kernel_rfl
theorem raH:((Rows.fnSessEndRow.pinned == Rows.fnSessEndRow.pinnedBy))=true:=by kernel_rfl
theorem saH:((Rows.fnSessEndRow.veiled == ((Tryz.f5).params.toList++Rows.fnSessEndSpec.plain.varTypes Tryz.prog++(Tryz.f5).resultTypes.toList).any (Tryz.prog.veiledRec ·)))=true:=by kernel_rfl
theorem taH:(Rows.fnSessEndRow.veiledFits Tryz.prog (Tryz.f5).params.toList ((Tryz.f5).params.toList++Rows.fnSessEndSpec.plain.varTypes Tryz.prog++(Tryz.f5).resultTypes.toList))=true:=by kernel_rfl
end Go.Proofs.YtiiidenbemkihaaGreat
