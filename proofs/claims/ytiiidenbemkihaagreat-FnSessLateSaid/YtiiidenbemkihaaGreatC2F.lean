/-
  FnSessLate: closed facts of its row, one by one. No statement is proved here.
-/
import Derived.Test.YtiiidenbemkihaaGreatAR

namespace Go.Proofs.YtiiidenbemkihaaGreat
open Go Go.ChangeShapes Go.WideShapes Go.ChangeAt Go.RowKit
theorem zaC:(Rows.fnSessLateRow.wf (OpenSpec.ofChange Rows.fnSessLateSpec))=true:=by kernel_rfl
theorem AaC:((Tryz.f9).params.all (Tryz.prog.readableRec ·))=true:=by kernel_rfl
theorem BaC:(namedTie Tryz.prog Rows.fnSessLateRow.named Rows.fnSessLateSpec.vars)=true:=by kernel_rfl
theorem CaC:((Rows.fnSessLateRow.stops == []))=true:=by kernel_rfl
theorem DaC:((Rows.fnSessLateRow.knobs == []))=true:=by kernel_rfl
theorem EaC:((Rows.fnSessLateRow.inPlace == Tryz.prog.inPlace 9))=true:=by kernel_rfl
theorem FaC:((Rows.fnSessLateRow.unfollowed == Tryz.prog.unfollowed 9))=true:=by kernel_rfl
theorem GaC:((Rows.fnSessLateRow.recurses == Tryz.prog.recurses 9))=true:=by kernel_rfl
theorem HaC:((Rows.fnSessLateRow.named == Tryz.prog.varsNamed 9))=true:=by kernel_rfl
theorem IaC:((Rows.fnSessLateRow.maps == ((Tryz.f9).params.toList++Rows.fnSessLateSpec.plain.varTypes Tryz.prog).any (Tryz.prog.mapsRec ·)))=true:=by kernel_rfl
theorem JaC:((Rows.fnSessLateRow.ifaces == ((Tryz.f9).params.toList++Rows.fnSessLateSpec.plain.varTypes Tryz.prog).any (Tryz.prog.ifacesRec ·)))=true:=by kernel_rfl
theorem KaC:((Rows.fnSessLateRow.mapsOut == Tryz.prog.mapsAmong (Tryz.f9).resultTypes.toList))=true:=by kernel_rfl
theorem LaC:((Rows.fnSessLateRow.loops == ((Tryz.f9).params.toList++Rows.fnSessLateSpec.plain.varTypes Tryz.prog).any (Tryz.prog.loopsFrom ·)))=true:=by kernel_rfl
theorem MaC:((Rows.fnSessLateRow.wideKeys == ((Tryz.f9).params.toList++Rows.fnSessLateSpec.plain.varTypes Tryz.prog++(Tryz.f9).resultTypes.toList).any (Tryz.prog.wideKeysFrom ·)))=true:=by kernel_rfl
theorem NaC:(Rows.fnSessLateSpec.vars.all (Tryz.prog.varReadable ·))=true:=by kernel_rfl
theorem OaC:((Tryz.f9).resultTypes.all (λt=>Tryz.prog.readableRec t&&decide (t < Tryz.prog.types.size)))=true:=by kernel_rfl
theorem PaC:((Rows.fnSessLateRow.ifacesOut == (Tryz.f9).resultTypes.toList.any (Tryz.prog.ifacesRec ·)))=true:=by kernel_rfl
theorem QaC:((Rows.fnSessLateRow.loopsOut == (Tryz.f9).resultTypes.toList.any (Tryz.prog.loopsFrom ·)))=true:=by kernel_rfl
theorem RaC:(Rows.fnSessLateRow.shortTexts.isNone)=true:=by kernel_rfl
theorem SaC:((Tryz.prog.make == some Rows.fnSessLateRow.make))=true:=by kernel_rfl
theorem TaC:((Rows.fnSessLateRow.kinds == (if Rows.fnSessLateRow.domain.isEmpty then [] else(Tryz.f9).params.toList.map λt=>match Tryz.prog.underlying t with|some (.int k)=>some k|_=>none)))=true:=by kernel_rfl
theorem UaC:((Rows.fnSessLateRow.pinned == Rows.fnSessLateRow.pinnedBy))=true:=by kernel_rfl
theorem VaC:((Rows.fnSessLateRow.veiled == ((Tryz.f9).params.toList++Rows.fnSessLateSpec.plain.varTypes Tryz.prog++(Tryz.f9).resultTypes.toList).any (Tryz.prog.veiledRec ·)))=true:=by kernel_rfl
theorem WaC:(Rows.fnSessLateRow.veiledFits Tryz.prog (Tryz.f9).params.toList ((Tryz.f9).params.toList++Rows.fnSessLateSpec.plain.varTypes Tryz.prog++(Tryz.f9).resultTypes.toList))=true:=by kernel_rfl
end Go.Proofs.YtiiidenbemkihaaGreat
