/-
  FnLinesBlank: closed facts of its row, one by one. No statement is proved here.
-/
import Derived.Test.YteogppapbognjaaGreatDoorAR
namespace Go.Proofs.YteogppapbognjaaGreatDoor
open Go
open Go.Proofs.Tryz renaming prog→aal
section
open Go Go.ChangeShapes Go.WideShapes Go.ChangeAt Go.RowKit
theorem man:(Rows.fnLinesBlankRow.wf (OpenSpec.ofChange Rows.fnLinesBlankSpec))=true:=by kernel_rfl
theorem nan:((Tryz.f6).params.all (aal.readableRec ·))=true:=by kernel_rfl
theorem oan:(namedTie aal Rows.fnLinesBlankRow.named Rows.fnLinesBlankSpec.vars)=true:=by kernel_rfl
theorem pan:((Rows.fnLinesBlankRow.stops == []))=true:=by kernel_rfl
theorem qan:((Rows.fnLinesBlankRow.knobs == []))=true:=by kernel_rfl
theorem ran:((Rows.fnLinesBlankRow.inPlace == aal.inPlace 6))=true:=by kernel_rfl
theorem san:((Rows.fnLinesBlankRow.unfollowed == aal.unfollowed 6))=true:=by kernel_rfl
theorem tan:((Rows.fnLinesBlankRow.recurses == aal.recurses 6))=true:=by kernel_rfl
theorem uan:((Rows.fnLinesBlankRow.named == aal.varsNamed 6))=true:=by kernel_rfl
theorem van:((Rows.fnLinesBlankRow.maps == ((Tryz.f6).params.toList++Rows.fnLinesBlankSpec.plain.varTypes aal).any (aal.mapsRec ·)))=true:=by kernel_rfl
theorem wan:((Rows.fnLinesBlankRow.ifaces == ((Tryz.f6).params.toList++Rows.fnLinesBlankSpec.plain.varTypes aal).any (aal.ifacesRec ·)))=true:=by kernel_rfl
theorem xan:((Rows.fnLinesBlankRow.mapsOut == aal.mapsAmong (Tryz.f6).resultTypes.toList))=true:=by kernel_rfl
theorem yan:((Rows.fnLinesBlankRow.loops == ((Tryz.f6).params.toList++Rows.fnLinesBlankSpec.plain.varTypes aal).any (aal.loopsFrom ·)))=true:=by kernel_rfl
theorem zan:((Rows.fnLinesBlankRow.wideKeys == ((Tryz.f6).params.toList++Rows.fnLinesBlankSpec.plain.varTypes aal++(Tryz.f6).resultTypes.toList).any (aal.wideKeysFrom ·)))=true:=by kernel_rfl
theorem Aan:(Rows.fnLinesBlankSpec.vars.all (aal.varReadable ·))=true:=by kernel_rfl
theorem Ban:((Tryz.f6).resultTypes.all (λt=>aal.readableRec t&&decide (t < aal.types.size)))=true:=by kernel_rfl
theorem Can:((Rows.fnLinesBlankRow.ifacesOut == (Tryz.f6).resultTypes.toList.any (aal.ifacesRec ·)))=true:=by kernel_rfl
theorem Dan:((Rows.fnLinesBlankRow.loopsOut == (Tryz.f6).resultTypes.toList.any (aal.loopsFrom ·)))=true:=by kernel_rfl
theorem Ean:(Rows.fnLinesBlankRow.shortTexts.isNone)=true:=by kernel_rfl
theorem Fan:((aal.make == some Rows.fnLinesBlankRow.make))=true:=by kernel_rfl
theorem Gan:((Rows.fnLinesBlankRow.kinds == (if Rows.fnLinesBlankRow.domain.isEmpty then [] else(Tryz.f6).params.toList.map λt=>match aal.underlying t with|some (.int k)=>some k|_=>none)))=true:=by kernel_rfl
theorem Han:((Rows.fnLinesBlankRow.pinned == Rows.fnLinesBlankRow.pinnedBy))=true:=by kernel_rfl
theorem Ian:((Rows.fnLinesBlankRow.veiled == ((Tryz.f6).params.toList++Rows.fnLinesBlankSpec.plain.varTypes aal++(Tryz.f6).resultTypes.toList).any (aal.veiledRec ·)))=true:=by kernel_rfl
theorem Jan:(Rows.fnLinesBlankRow.veiledFits aal (Tryz.f6).params.toList ((Tryz.f6).params.toList++Rows.fnLinesBlankSpec.plain.varTypes aal++(Tryz.f6).resultTypes.toList))=true:=by kernel_rfl
end
end Go.Proofs.YteogppapbognjaaGreatDoor
