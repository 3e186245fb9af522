/-
  FnSessOn: closed facts of its row, one by one. No statement is proved here.
-/
import Derived.Test.YtiiidenbemkihaaGreatAR

namespace Go.Proofs.YtiiidenbemkihaaGreat
open Go Go.ChangeShapes Go.WideShapes Go.ChangeAt Go.RowKit
theorem UaE:(Rows.fnSessOnRow.wf (OpenSpec.ofChange Rows.fnSessOnSpec))=true:=by kernel_rfl
theorem VaE:((Tryz.f8).params.all (Tryz.prog.readableRec ·))=true:=by kernel_rfl
theorem WaE:(namedTie Tryz.prog Rows.fnSessOnRow.named Rows.fnSessOnSpec.vars)=true:=by kernel_rfl
theorem XaE:((Rows.fnSessOnRow.stops == []))=true:=by kernel_rfl
theorem YaE:((Rows.fnSessOnRow.knobs == []))=true:=by kernel_rfl
theorem ZaE:((Rows.fnSessOnRow.inPlace == Tryz.prog.inPlace 8))=true:=by kernel_rfl
theorem aaF:((Rows.fnSessOnRow.unfollowed == Tryz.prog.unfollowed 8))=true:=by kernel_rfl
theorem baF:((Rows.fnSessOnRow.recurses == Tryz.prog.recurses 8))=true:=by kernel_rfl
theorem caF:((Rows.fnSessOnRow.named == Tryz.prog.varsNamed 8))=true:=by kernel_rfl
theorem daF:((Rows.fnSessOnRow.maps == ((Tryz.f8).params.toList++Rows.fnSessOnSpec.plain.varTypes Tryz.prog).any (Tryz.prog.mapsRec ·)))=true:=by kernel_rfl
theorem eaF:((Rows.fnSessOnRow.ifaces == ((Tryz.f8).params.toList++Rows.fnSessOnSpec.plain.varTypes Tryz.prog).any (Tryz.prog.ifacesRec ·)))=true:=by kernel_rfl
theorem faF:((Rows.fnSessOnRow.mapsOut == Tryz.prog.mapsAmong (Tryz.f8).resultTypes.toList))=true:=by kernel_rfl
theorem gaF:((Rows.fnSessOnRow.loops == ((Tryz.f8).params.toList++Rows.fnSessOnSpec.plain.varTypes Tryz.prog).any (Tryz.prog.loopsFrom ·)))=true:=by kernel_rfl
theorem haF:((Rows.fnSessOnRow.wideKeys == ((Tryz.f8).params.toList++Rows.fnSessOnSpec.plain.varTypes Tryz.prog++(Tryz.f8).resultTypes.toList).any (Tryz.prog.wideKeysFrom ·)))=true:=by kernel_rfl
theorem iaF:(Rows.fnSessOnSpec.vars.all (Tryz.prog.varReadable ·))=true:=by kernel_rfl
theorem jaF:((Tryz.f8).resultTypes.all (λt=>Tryz.prog.readableRec t&&decide (t < Tryz.prog.types.size)))=true:=by kernel_rfl
theorem kaF:((Rows.fnSessOnRow.ifacesOut == (Tryz.f8).resultTypes.toList.any (Tryz.prog.ifacesRec ·)))=true:=by kernel_rfl
theorem laF:((Rows.fnSessOnRow.loopsOut == (Tryz.f8).resultTypes.toList.any (Tryz.prog.loopsFrom ·)))=true:=by kernel_rfl
theorem maF:(Rows.fnSessOnRow.shortTexts.isNone)=true:=by kernel_rfl
theorem naF:((Tryz.prog.make == some Rows.fnSessOnRow.make))=true:=by kernel_rfl
theorem oaF:((Rows.fnSessOnRow.kinds == (if Rows.fnSessOnRow.domain.isEmpty then [] else(Tryz.f8).params.toList.map λt=>match Tryz.prog.underlying t with|some (.int k)=>some k|_=>none)))=true:=by kernel_rfl
theorem paF:((Rows.fnSessOnRow.pinned == Rows.fnSessOnRow.pinnedBy))=true:=by kernel_rfl
theorem qaF:((Rows.fnSessOnRow.veiled == ((Tryz.f8).params.toList++Rows.fnSessOnSpec.plain.varTypes Tryz.prog++(Tryz.f8).resultTypes.toList).any (Tryz.prog.veiledRec ·)))=true:=by kernel_rfl
theorem raF:(Rows.fnSessOnRow.veiledFits Tryz.prog (Tryz.f8).params.toList ((Tryz.f8).params.toList++Rows.fnSessOnSpec.plain.varTypes Tryz.prog++(Tryz.f8).resultTypes.toList))=true:=by kernel_rfl
end Go.Proofs.YtiiidenbemkihaaGreat
