/-
  FnLinesNo: closed facts of its row, one by one. No statement is proved here.
-/
import Derived.Test.YteogppapbognjaaGreatDoorAR
namespace Go.Proofs.YteogppapbognjaaGreatDoor
open Go
open Go.Proofs.Tryz renaming prog→aal
section
open Go Go.ChangeShapes Go.WideShapes Go.ChangeAt Go.RowKit
theorem xal:(Rows.fnLinesNoRow.wf (OpenSpec.ofChange Rows.fnLinesNoSpec))=true:=by kernel_rfl
theorem yal:((Tryz.f4).params.all (aal.readableRec ·))=true:=by kernel_rfl
theorem zal:(namedTie aal Rows.fnLinesNoRow.named Rows.fnLinesNoSpec.vars)=true:=by kernel_rfl
theorem Aal:((Rows.fnLinesNoRow.stops == []))=true:=by kernel_rfl
theorem Bal:((Rows.fnLinesNoRow.knobs == []))=true:=by kernel_rfl
theorem Cal:((Rows.fnLinesNoRow.inPlace == aal.inPlace 4))=true:=by kernel_rfl
theorem Dal:((Rows.fnLinesNoRow.unfollowed == aal.unfollowed 4))=true:=by kernel_rfl
theorem Eal:((Rows.fnLinesNoRow.recurses == aal.recurses 4))=true:=by kernel_rfl
theorem Fal:((Rows.fnLinesNoRow.named == aal.varsNamed 4))=true:=by kernel_rfl
theorem Gal:((Rows.fnLinesNoRow.maps == ((Tryz.f4).params.toList++Rows.fnLinesNoSpec.plain.varTypes aal).any (aal.mapsRec ·)))=true:=by kernel_rfl
theorem Hal:((Rows.fnLinesNoRow.ifaces == ((Tryz.f4).params.toList++Rows.fnLinesNoSpec.plain.varTypes aal).any (aal.ifacesRec ·)))=true:=by kernel_rfl
theorem Ial:((Rows.fnLinesNoRow.mapsOut == aal.mapsAmong (Tryz.f4).resultTypes.toList))=true:=by kernel_rfl
theorem Jal:((Rows.fnLinesNoRow.loops == ((Tryz.f4).params.toList++Rows.fnLinesNoSpec.plain.varTypes aal).any (aal.loopsFrom ·)))=true:=by kernel_rfl
theorem Kal:((Rows.fnLinesNoRow.wideKeys == ((Tryz.f4).params.toList++Rows.fnLinesNoSpec.plain.varTypes aal++(Tryz.f4).resultTypes.toList).any (aal.wideKeysFrom ·)))=true:=by kernel_rfl
theorem Lal:(Rows.fnLinesNoSpec.vars.all (aal.varReadable ·))=true:=by kernel_rfl
theorem Mal:((Tryz.f4).resultTypes.all (λt=>aal.readableRec t&&decide (t < aal.types.size)))=true:=by kernel_rfl
theorem Nal:((Rows.fnLinesNoRow.ifacesOut == (Tryz.f4).resultTypes.toList.any (aal.ifacesRec ·)))=true:=by kernel_rfl
theorem Oal:((Rows.fnLinesNoRow.loopsOut == (Tryz.f4).resultTypes.toList.any (aal.loopsFrom ·)))=true:=by kernel_rfl
theorem Pal:(Rows.fnLinesNoRow.shortTexts.isNone)=true:=by kernel_rfl
theorem Qal:((aal.make == some Rows.fnLinesNoRow.make))=true:=by kernel_rfl
theorem Ral:((Rows.fnLinesNoRow.kinds == (if Rows.fnLinesNoRow.domain.isEmpty then [] else(Tryz.f4).params.toList.map λt=>match aal.underlying t with|some (.int k)=>some k|_=>none)))=true:=by kernel_rfl
theorem Sal:((Rows.fnLinesNoRow.pinned == Rows.fnLinesNoRow.pinnedBy))=true:=by kernel_rfl
theorem Tal:((Rows.fnLinesNoRow.veiled == ((Tryz.f4).params.toList++Rows.fnLinesNoSpec.plain.varTypes aal++(Tryz.f4).resultTypes.toList).any (aal.veiledRec ·)))=true:=by kernel_rfl
theorem Ual:(Rows.fnLinesNoRow.veiledFits aal (Tryz.f4).params.toList ((Tryz.f4).params.toList++Rows.fnLinesNoSpec.plain.varTypes aal++(Tryz.f4).resultTypes.toList))=true:=by kernel_rfl
end
end Go.Proofs.YteogppapbognjaaGreatDoor
