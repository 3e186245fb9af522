/-
  FnSessBack: closed facts of its row, one by one. No statement is proved here.
-/
import Derived.Test.YtiiidenbemkihaaGreatAR

namespace Go.Proofs.YtiiidenbemkihaaGreat
open Go Go.ChangeShapes Go.WideShapes Go.ChangeAt Go.RowKit
theorem NaH:(Rows.fnSessBackRow.wf (OpenSpec.ofChange Rows.fnSessBackSpec))=true:=by kernel_rfl
theorem OaH:((Tryz.f6).params.all (Tryz.prog.readableRec ·))=true:=by kernel_rfl
theorem PaH:(namedTie Tryz.prog Rows.fnSessBackRow.named Rows.fnSessBackSpec.vars)=true:=by kernel_rfl
theorem QaH:((Rows.fnSessBackRow.stops == []))=true:=by kernel_rfl
theorem RaH:((Rows.fnSessBackRow.knobs == []))=true:=by kernel_rfl
theorem SaH:((Rows.fnSessBackRow.inPlace == Tryz.prog.inPlace 6))=true:=by kernel_rfl
theorem TaH:((Rows.fnSessBackRow.unfollowed == Tryz.prog.unfollowed 6))=true:=by kernel_rfl
theorem UaH:((Rows.fnSessBackRow.recurses == Tryz.prog.recurses 6))=true:=by kernel_rfl
theorem VaH:((Rows.fnSessBackRow.named == Tryz.prog.varsNamed 6))=true:=by kernel_rfl
theorem WaH:((Rows.fnSessBackRow.maps == ((Tryz.f6).params.toList++Rows.fnSessBackSpec.plain.varTypes Tryz.prog).any (Tryz.prog.mapsRec ·)))=true:=by kernel_rfl
theorem XaH:((Rows.fnSessBackRow.ifaces == ((Tryz.f6).params.toList++Rows.fnSessBackSpec.plain.varTypes Tryz.prog).any (Tryz.prog.ifacesRec ·)))=true:=by kernel_rfl
theorem YaH:((Rows.fnSessBackRow.mapsOut == Tryz.prog.mapsAmong (Tryz.f6).resultTypes.toList))=true:=by kernel_rfl
theorem ZaH:((Rows.fnSessBackRow.loops == ((Tryz.f6).params.toList++Rows.fnSessBackSpec.plain.varTypes Tryz.prog).any (Tryz.prog.loopsFrom ·)))=true:=by kernel_rfl
theorem aaI:((Rows.fnSessBackRow.wideKeys == ((Tryz.f6).params.toList++Rows.fnSessBackSpec.plain.varTypes Tryz.prog++(Tryz.f6).resultTypes.toList).any (Tryz.prog.wideKeysFrom ·)))=true:=by kernel_rfl
theorem baI:(Rows.fnSessBackSpec.vars.all (Tryz.prog.varReadable ·))=true:=by kernel_rfl
theorem caI:((Tryz.f6).resultTypes.all (λt=>Tryz.prog.readableRec t&&decide (t < Tryz.prog.types.size)))=true:=by kernel_rfl
theorem daI:((Rows.fnSessBackRow.ifacesOut == (Tryz.f6).resultTypes.toList.any (Tryz.prog.ifacesRec ·)))=true:=by kernel_rfl
theorem eaI:((Rows.fnSessBackRow.loopsOut == (Tryz.f6).resultTypes.toList.any (Tryz.prog.loopsFrom ·)))=true:=by kernel_rfl
theorem faI:(Rows.fnSessBackRow.shortTexts.isNone)=true:=by kernel_rfl
theorem gaI:((Tryz.prog.make == some Rows.fnSessBackRow.make))=true:=by kernel_rfl
theorem haI:((Rows.fnSessBackRow.kinds == (if Rows.fnSessBackRow.domain.isEmpty then [] else(Tryz.f6).params.toList.map λt=>match Tryz.prog.underlying t with|some (.int k)=>some k|_=>none)))=true:=by kernel_rfl
theorem iaI:((Rows.fnSessBackRow.pinned == Rows.fnSessBackRow.pinnedBy))=true:=by kernel_rfl
theorem jaI:((Rows.fnSessBackRow.veiled == ((Tryz.f6).params.toList++Rows.fnSessBackSpec.plain.varTypes Tryz.prog++(Tryz.f6).resultTypes.toList).any (Tryz.prog.veiledRec ·)))=true:=by kernel_rfl
theorem kaI:(Rows.fnSessBackRow.veiledFits Tryz.prog (Tryz.f6).params.toList ((Tryz.f6).params.toList++Rows.fnSessBackSpec.plain.varTypes Tryz.prog++(Tryz.f6).resultTypes.toList))=true:=by kernel_rfl
end Go.Proofs.YtiiidenbemkihaaGreat
