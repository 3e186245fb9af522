/-
  FnSessOnNew: closed facts of its row, one by one. No statement is proved here.
-/
import Derived.Test.YtiiidenbemkihaaGreatAR

namespace Go.Proofs.YtiiidenbemkihaaGreat
open Go Go.ChangeShapes Go.WideShapes Go.ChangeAt Go.RowKit
theorem UaF:(Rows.fnSessOnNewRow.wf (OpenSpec.ofChange Rows.fnSessOnNewSpec))=true:=by kernel_rfl
theorem VaF:((Tryz.f4).params.all (Tryz.prog.readableRec ·))=true:=by kernel_rfl
theorem WaF:(namedTie Tryz.prog Rows.fnSessOnNewRow.named Rows.fnSessOnNewSpec.vars)=true:=by kernel_rfl
theorem XaF:((Rows.fnSessOnNewRow.stops == []))=true:=by kernel_rfl
theorem YaF:((Rows.fnSessOnNewRow.knobs == []))=true:=by kernel_rfl
theorem ZaF:((Rows.fnSessOnNewRow.inPlace == Tryz.prog.inPlace 4))=true:=by kernel_rfl
theorem aaG:((Rows.fnSessOnNewRow.unfollowed == Tryz.prog.unfollowed 4))=true:=by kernel_rfl
theorem baG:((Rows.fnSessOnNewRow.recurses == Tryz.prog.recurses 4))=true:=by kernel_rfl
theorem caG:((Rows.fnSessOnNewRow.named == Tryz.prog.varsNamed 4))=true:=by kernel_rfl
theorem daG:((Rows.fnSessOnNewRow.maps == ((Tryz.f4).params.toList++Rows.fnSessOnNewSpec.plain.varTypes Tryz.prog).any (Tryz.prog.mapsRec ·)))=true:=by kernel_rfl
theorem eaG:((Rows.fnSessOnNewRow.ifaces == ((Tryz.f4).params.toList++Rows.fnSessOnNewSpec.plain.varTypes Tryz.prog).any (Tryz.prog.ifacesRec ·)))=true:=by kernel_rfl
theorem faG:((Rows.fnSessOnNewRow.mapsOut == Tryz.prog.mapsAmong (Tryz.f4).resultTypes.toList))=true:=by kernel_rfl
theorem gaG:((Rows.fnSessOnNewRow.loops == ((Tryz.f4).params.toList++Rows.fnSessOnNewSpec.plain.varTypes Tryz.prog).any (Tryz.prog.loopsFrom ·)))=true:=by kernel_rfl
theorem haG:((Rows.fnSessOnNewRow.wideKeys == ((Tryz.f4).params.toList++Rows.fnSessOnNewSpec.plain.varTypes Tryz.prog++(Tryz.f4).resultTypes.toList).any (Tryz.prog.wideKeysFrom ·)))=true:=by kernel_rfl
theorem iaG:(Rows.fnSessOnNewSpec.vars.all (Tryz.prog.varReadable ·))=true:=by kernel_rfl
theorem jaG:((Tryz.f4).resultTypes.all (λt=>Tryz.prog.readableRec t&&decide (t < Tryz.prog.types.size)))=true:=by kernel_rfl
theorem kaG:((Rows.fnSessOnNewRow.ifacesOut == (Tryz.f4).resultTypes.toList.any (Tryz.prog.ifacesRec ·)))=true:=by kernel_rfl
theorem laG:((Rows.fnSessOnNewRow.loopsOut == (Tryz.f4).resultTypes.toList.any (Tryz.prog.loopsFrom ·)))=true:=by kernel_rfl
theorem maG:(Rows.fnSessOnNewRow.shortTexts.isNone)=true:=by kernel_rfl
theorem naG:((Tryz.prog.make == some Rows.fnSessOnNewRow.make))=true:=by kernel_rfl
theorem oaG:((Rows.fnSessOnNewRow.kinds == (if Rows.fnSessOnNewRow.domain.isEmpty then [] else(Tryz.f4).params.toList.map λt=>match Tryz.prog.underlying t with|some (.int k)=>some k|_=>none)))=true:=by kernel_rfl
theorem paG:((Rows.fnSessOnNewRow.pinned == Rows.fnSessOnNewRow.pinnedBy))=true:=by kernel_rfl
theorem qaG:((Rows.fnSessOnNewRow.veiled == ((Tryz.f4).params.toList++Rows.fnSessOnNewSpec.plain.varTypes Tryz.prog++(Tryz.f4).resultTypes.toList).any (Tryz.prog.veiledRec ·)))=true:=by kernel_rfl
theorem raG:(Rows.fnSessOnNewRow.veiledFits Tryz.prog (Tryz.f4).params.toList ((Tryz.f4).params.toList++Rows.fnSessOnNewSpec.plain.varTypes Tryz.prog++(Tryz.f4).resultTypes.toList))=true:=by kernel_rfl
end Go.Proofs.YtiiidenbemkihaaGreat
