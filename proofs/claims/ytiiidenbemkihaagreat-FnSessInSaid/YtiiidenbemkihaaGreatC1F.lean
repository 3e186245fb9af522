/-
  FnSessIn: closed facts of its row, one by one. No statement is proved here.
-/
import Derived.Test.YtiiidenbemkihaaGreatAR

namespace Go.Proofs.YtiiidenbemkihaaGreat
open Go Go.ChangeShapes Go.WideShapes Go.ChangeAt Go.RowKit
theorem jaC:(Rows.fnSessInRow.wf (OpenSpec.ofChange Rows.fnSessInSpec))=true:=by kernel_rfl
theorem kaC:((Tryz.f10).params.all (Tryz.prog.readableRec ·))=true:=by kernel_rfl
theorem laC:(namedTie Tryz.prog Rows.fnSessInRow.named Rows.fnSessInSpec.vars)=true:=by kernel_rfl
theorem maC:((Rows.fnSessInRow.stops == []))=true:=by kernel_rfl
theorem naC:((Rows.fnSessInRow.knobs == []))=true:=by kernel_rfl
theorem oaC:((Rows.fnSessInRow.inPlace == Tryz.prog.inPlace 10))=true:=by kernel_rfl
theorem paC:((Rows.fnSessInRow.unfollowed == Tryz.prog.unfollowed 10))=true:=by kernel_rfl
theorem qaC:((Rows.fnSessInRow.recurses == Tryz.prog.recurses 10))=true:=by kernel_rfl
theorem raC:((Rows.fnSessInRow.named == Tryz.prog.varsNamed 10))=true:=by kernel_rfl
theorem saC:((Rows.fnSessInRow.maps == ((Tryz.f10).params.toList++Rows.fnSessInSpec.plain.varTypes Tryz.prog).any (Tryz.prog.mapsRec ·)))=true:=by kernel_rfl
theorem taC:((Rows.fnSessInRow.ifaces == ((Tryz.f10).params.toList++Rows.fnSessInSpec.plain.varTypes Tryz.prog).any (Tryz.prog.ifacesRec ·)))=true:=by kernel_rfl
theorem uaC:((Rows.fnSessInRow.mapsOut == Tryz.prog.mapsAmong (Tryz.f10).resultTypes.toList))=true:=by kernel_rfl
theorem vaC:((Rows.fnSessInRow.loops == ((Tryz.f10).params.toList++Rows.fnSessInSpec.plain.varTypes Tryz.prog).any (Tryz.prog.loopsFrom ·)))=true:=by kernel_rfl
theorem waC:((Rows.fnSessInRow.wideKeys == ((Tryz.f10).params.toList++Rows.fnSessInSpec.plain.varTypes Tryz.prog++(Tryz.f10).resultTypes.toList).any (Tryz.prog.wideKeysFrom ·)))=true:=by kernel_rfl
theorem xaC:(Rows.fnSessInSpec.vars.all (Tryz.prog.varReadable ·))=true:=by kernel_rfl
theorem yaC:((Tryz.f10).resultTypes.all (λt=>Tryz.prog.readableRec t&&decide (t < Tryz.prog.types.size)))=true:=by kernel_rfl
theorem zaC:((Rows.fnSessInRow.ifacesOut == (Tryz.f10).resultTypes.toList.any (Tryz.prog.ifacesRec ·)))=true:=by kernel_rfl
theorem AaC:((Rows.fnSessInRow.loopsOut == (Tryz.f10).resultTypes.toList.any (Tryz.prog.loopsFrom ·)))=true:=by kernel_rfl
theorem BaC:(Rows.fnSessInRow.shortTexts.isNone)=true:=by kernel_rfl
theorem CaC:((Tryz.prog.make == some Rows.fnSessInRow.make))=true:=by kernel_rfl
theorem DaC:((Rows.fnSessInRow.kinds == (if Rows.fnSessInRow.domain.isEmpty then [] else(Tryz.f10).params.toList.map λt=>match Tryz.prog.underlying t with|some (.int k)=>some k|_=>none)))=true:=by kernel_rfl
theorem EaC:((Rows.fnSessInRow.pinned == Rows.fnSessInRow.pinnedBy))=true:=by kernel_rfl
theorem FaC:((Rows.fnSessInRow.veiled == ((Tryz.f10).params.toList++Rows.fnSessInSpec.plain.varTypes Tryz.prog++(Tryz.f10).resultTypes.toList).any (Tryz.prog.veiledRec ·)))=true:=by kernel_rfl
theorem GaC:(Rows.fnSessInRow.veiledFits Tryz.prog (Tryz.f10).params.toList ((Tryz.f10).params.toList++Rows.fnSessInSpec.plain.varTypes Tryz.prog++(Tryz.f10).resultTypes.toList))=true:=by kernel_rfl
end Go.Proofs.YtiiidenbemkihaaGreat
