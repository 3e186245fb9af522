/-
  FnExactLinesRun: closed facts of its row, one by one. No statement is proved here.
-/
import Derived.Test.YteogppapbognjaaGreatDoorAR
namespace Go.Proofs.YteogppapbognjaaGreatDoor
open Go
open Go.Proofs.Tryz renaming prog→aal
section
open Go Go.ChangeShapes Go.WideShapes Go.ChangeAt Go.RowKit
theorem Yan:(Rows.fnExactLinesRunRow.wf (OpenSpec.ofChange Rows.fnExactLinesRunSpec))=true:=by kernel_rfl
theorem Zan:((Tryz.f7).params.all (aal.readableRec ·))=true:=by kernel_rfl
theorem aao:(namedTie aal Rows.fnExactLinesRunRow.named Rows.fnExactLinesRunSpec.vars)=true:=by kernel_rfl
theorem bao:((Rows.fnExactLinesRunRow.stops == []))=true:=by kernel_rfl
theorem cao:((Rows.fnExactLinesRunRow.knobs == []))=true:=by kernel_rfl
theorem dao:((Rows.fnExactLinesRunRow.inPlace == aal.inPlace 7))=true:=by kernel_rfl
theorem eao:((Rows.fnExactLinesRunRow.unfollowed == aal.unfollowed 7))=true:=by kernel_rfl
theorem fao:((Rows.fnExactLinesRunRow.recurses == aal.recurses 7))=true:=by kernel_rfl
theorem gao:((Rows.fnExactLinesRunRow.named == aal.varsNamed 7))=true:=by kernel_rfl
theorem hao:((Rows.fnExactLinesRunRow.maps == ((Tryz.f7).params.toList++Rows.fnExactLinesRunSpec.plain.varTypes aal).any (aal.mapsRec ·)))=true:=by kernel_rfl
theorem iao:((Rows.fnExactLinesRunRow.ifaces == ((Tryz.f7).params.toList++Rows.fnExactLinesRunSpec.plain.varTypes aal).any (aal.ifacesRec ·)))=true:=by kernel_rfl
theorem jao:((Rows.fnExactLinesRunRow.mapsOut == aal.mapsAmong (Tryz.f7).resultTypes.toList))=true:=by kernel_rfl
theorem kao:((Rows.fnExactLinesRunRow.loops == ((Tryz.f7).params.toList++Rows.fnExactLinesRunSpec.plain.varTypes aal).any (aal.loopsFrom ·)))=true:=by kernel_rfl
theorem lao:((Rows.fnExactLinesRunRow.wideKeys == ((Tryz.f7).params.toList++Rows.fnExactLinesRunSpec.plain.varTypes aal++(Tryz.f7).resultTypes.toList).any (aal.wideKeysFrom ·)))=true:=by kernel_rfl
theorem mao:(Rows.fnExactLinesRunSpec.vars.all (aal.varReadable ·))=true:=by kernel_rfl
theorem nao:((Tryz.f7).resultTypes.all (λt=>aal.readableRec t&&decide (t < aal.types.size)))=true:=by kernel_rfl
theorem oao:((Rows.fnExactLinesRunRow.ifacesOut == (Tryz.f7).resultTypes.toList.any (aal.ifacesRec ·)))=true:=by kernel_rfl
theorem pao:((Rows.fnExactLinesRunRow.loopsOut == (Tryz.f7).resultTypes.toList.any (aal.loopsFrom ·)))=true:=by kernel_rfl
theorem qao:(Rows.fnExactLinesRunRow.shortTexts.isNone)=true:=by kernel_rfl
theorem rao:((aal.make == some Rows.fnExactLinesRunRow.make))=true:=by kernel_rfl
theorem sao:((Rows.fnExactLinesRunRow.kinds == (if Rows.fnExactLinesRunRow.domain.isEmpty then [] else(Tryz.f7).params.toList.map λt=>match aal.underlying t with|some (.int k)=>some k|_=>none)))=true:=by kernel_rfl
theorem tao:((Rows.fnExactLinesRunRow.pinned == Rows.fnExactLinesRunRow.pinnedBy))=true:=by kernel_rfl
theorem uao:((Rows.fnExactLinesRunRow.veiled == ((Tryz.f7).params.toList++Rows.fnExactLinesRunSpec.plain.varTypes aal++(Tryz.f7).resultTypes.toList).any (aal.veiledRec ·)))=true:=by kernel_rfl
theorem vao:(Rows.fnExactLinesRunRow.veiledFits aal (Tryz.f7).params.toList ((Tryz.f7).params.toList++Rows.fnExactLinesRunSpec.plain.varTypes aal++(Tryz.f7).resultTypes.toList))=true:=by kernel_rfl
end
end Go.Proofs.YteogppapbognjaaGreatDoor
