/-
  FnPlanMove: closed facts of its row, one by one. No statement is proved here.
-/
import Derived.Test.YthfkpijcajdnhaaGreatAR

namespace Go.Proofs.YthfkpijcajdnhaaGreat
open Go Go.ChangeShapes Go.WideShapes Go.ChangeAt Go.RowKit
theorem HaB:(Rows.fnPlanMoveRow.wf (OpenSpec.ofChange Rows.fnPlanMoveSpec))=true:=by kernel_rfl
theorem IaB:((Tryz.f11).params.all (Tryz.prog.readableRec ·))=true:=by kernel_rfl
theorem JaB:(namedTie Tryz.prog Rows.fnPlanMoveRow.named Rows.fnPlanMoveSpec.vars)=true:=by kernel_rfl
theorem KaB:((Rows.fnPlanMoveRow.stops == []))=true:=by kernel_rfl
theorem LaB:((Rows.fnPlanMoveRow.knobs == []))=true:=by kernel_rfl
theorem MaB:((Rows.fnPlanMoveRow.inPlace == Tryz.prog.inPlace 11))=true:=by kernel_rfl
theorem NaB:((Rows.fnPlanMoveRow.unfollowed == Tryz.prog.unfollowed 11))=true:=by kernel_rfl
theorem OaB:((Rows.fnPlanMoveRow.recurses == Tryz.prog.recurses 11))=true:=by kernel_rfl
theorem PaB:((Rows.fnPlanMoveRow.named == Tryz.prog.varsNamed 11))=true:=by kernel_rfl
theorem QaB:((Rows.fnPlanMoveRow.maps == ((Tryz.f11).params.toList++Rows.fnPlanMoveSpec.plain.varTypes Tryz.prog).any (Tryz.prog.mapsRec ·)))=true:=by kernel_rfl
theorem RaB:((Rows.fnPlanMoveRow.ifaces == ((Tryz.f11).params.toList++Rows.fnPlanMoveSpec.plain.varTypes Tryz.prog).any (Tryz.prog.ifacesRec ·)))=true:=by kernel_rfl
theorem SaB:((Rows.fnPlanMoveRow.mapsOut == Tryz.prog.mapsAmong (Tryz.f11).resultTypes.toList))=true:=by kernel_rfl
theorem TaB:((Rows.fnPlanMoveRow.loops == ((Tryz.f11).params.toList++Rows.fnPlanMoveSpec.plain.varTypes Tryz.prog).any (Tryz.prog.loopsFrom ·)))=true:=by kernel_rfl
theorem UaB:((Rows.fnPlanMoveRow.wideKeys == ((Tryz.f11).params.toList++Rows.fnPlanMoveSpec.plain.varTypes Tryz.prog++(Tryz.f11).resultTypes.toList).any (Tryz.prog.wideKeysFrom ·)))=true:=by kernel_rfl
theorem VaB:(Rows.fnPlanMoveSpec.vars.all (Tryz.prog.varReadable ·))=true:=by kernel_rfl
theorem WaB:((Tryz.f11).resultTypes.all (λt=>Tryz.prog.readableRec t&&decide (t < Tryz.prog.types.size)))=true:=by kernel_rfl
theorem XaB:((Rows.fnPlanMoveRow.ifacesOut == (Tryz.f11).resultTypes.toList.any (Tryz.prog.ifacesRec ·)))=true:=by kernel_rfl
theorem YaB:((Rows.fnPlanMoveRow.loopsOut == (Tryz.f11).resultTypes.toList.any (Tryz.prog.loopsFrom ·)))=true:=by kernel_rfl
theorem ZaB:(Rows.fnPlanMoveRow.shortTexts.isNone)=true:=by kernel_rfl
theorem aaC:((Tryz.prog.make == some Rows.fnPlanMoveRow.make))=true:=by kernel_rfl
theorem baC:((Rows.fnPlanMoveRow.kinds == (if Rows.fnPlanMoveRow.domain.isEmpty then [] else (Tryz.f11).params.toList.map λt=>match Tryz.prog.underlying t with|some (.int k)=>some k|_=>none)))=true:=by kernel_rfl
theorem caC:((Rows.fnPlanMoveRow.pinned == Rows.fnPlanMoveRow.pinnedBy))=true:=by kernel_rfl
theorem daC:((Rows.fnPlanMoveRow.veiled == ((Tryz.f11).params.toList++Rows.fnPlanMoveSpec.plain.varTypes Tryz.prog++(Tryz.f11).resultTypes.toList).any (Tryz.prog.veiledRec ·)))=true:=by kernel_rfl
theorem eaC:(Rows.fnPlanMoveRow.veiledFits Tryz.prog (Tryz.f11).params.toList ((Tryz.f11).params.toList++Rows.fnPlanMoveSpec.plain.varTypes Tryz.prog++(Tryz.f11).resultTypes.toList))=true:=by kernel_rfl
end Go.Proofs.YthfkpijcajdnhaaGreat
