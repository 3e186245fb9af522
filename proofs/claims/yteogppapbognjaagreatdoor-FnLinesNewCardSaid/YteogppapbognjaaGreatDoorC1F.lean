/-
  FnLinesNew: closed facts of its row, one by one. No statement is proved here.
-/
import Derived.Test.YteogppapbognjaaGreatDoorAR
namespace Go.Proofs.YteogppapbognjaaGreatDoor
open Go
open Go.Proofs.Tryz renaming prog→aam
section
open Go Go.ChangeShapes Go.WideShapes Go.ChangeAt Go.RowKit
theorem vak:(Rows.fnLinesNewRow.wf (OpenSpec.ofChange Rows.fnLinesNewSpec))=true:=by kernel_rfl
theorem wak:((Tryz.f3).params.all (aam.readableRec ·))=true:=by kernel_rfl
theorem xak:(namedTie aam Rows.fnLinesNewRow.named Rows.fnLinesNewSpec.vars)=true:=by kernel_rfl
theorem yak:((Rows.fnLinesNewRow.stops == []))=true:=by kernel_rfl
theorem zak:((Rows.fnLinesNewRow.knobs == []))=true:=by kernel_rfl
theorem Aak:((Rows.fnLinesNewRow.inPlace == aam.inPlace 3))=true:=by kernel_rfl
theorem Bak:((Rows.fnLinesNewRow.unfollowed == aam.unfollowed 3))=true:=by kernel_rfl
theorem Cak:((Rows.fnLinesNewRow.recurses == aam.recurses 3))=true:=by kernel_rfl
theorem Dak:((Rows.fnLinesNewRow.named == aam.varsNamed 3))=true:=by kernel_rfl
theorem Eak:((Rows.fnLinesNewRow.maps == ((Tryz.f3).params.toList++Rows.fnLinesNewSpec.plain.varTypes aam).any (aam.mapsRec ·)))=true:=by kernel_rfl
theorem Fak:((Rows.fnLinesNewRow.ifaces == ((Tryz.f3).params.toList++Rows.fnLinesNewSpec.plain.varTypes aam).any (aam.ifacesRec ·)))=true:=by kernel_rfl
theorem Gak:((Rows.fnLinesNewRow.mapsOut == aam.mapsAmong (Tryz.f3).resultTypes.toList))=true:=by kernel_rfl
theorem Hak:((Rows.fnLinesNewRow.loops == ((Tryz.f3).params.toList++Rows.fnLinesNewSpec.plain.varTypes aam).any (aam.loopsFrom ·)))=true:=by kernel_rfl
theorem Iak:((Rows.fnLinesNewRow.wideKeys == ((Tryz.f3).params.toList++Rows.fnLinesNewSpec.plain.varTypes aam++(Tryz.f3).resultTypes.toList).any (aam.wideKeysFrom ·)))=true:=by kernel_rfl
theorem Jak:(Rows.fnLinesNewSpec.vars.all (aam.varReadable ·))=true:=by kernel_rfl
theorem Kak:((Tryz.f3).resultTypes.all (λt=>aam.readableRec t&&decide (t < aam.types.size)))=true:=by kernel_rfl
theorem Lak:((Rows.fnLinesNewRow.ifacesOut == (Tryz.f3).resultTypes.toList.any (aam.ifacesRec ·)))=true:=by kernel_rfl
theorem Mak:((Rows.fnLinesNewRow.loopsOut == (Tryz.f3).resultTypes.toList.any (aam.loopsFrom ·)))=true:=by kernel_rfl
theorem Nak:(Rows.fnLinesNewRow.shortTexts.isNone)=true:=by kernel_rfl
theorem Oak:((aam.make == some Rows.fnLinesNewRow.make))=true:=by kernel_rfl
theorem Pak:((Rows.fnLinesNewRow.kinds == (if Rows.fnLinesNewRow.domain.isEmpty then [] else(Tryz.f3).params.toList.map λt=>match aam.underlying t with|some (.int k)=>some k|_=>none)))=true:=by kernel_rfl
theorem Qak:((Rows.fnLinesNewRow.pinned == Rows.fnLinesNewRow.pinnedBy))=true:=by kernel_rfl
theorem Rak:((Rows.fnLinesNewRow.veiled == ((Tryz.f3).params.toList++Rows.fnLinesNewSpec.plain.varTypes aam++(Tryz.f3).resultTypes.toList).any (aam.veiledRec ·)))=true:=by kernel_rfl
theorem Sak:(Rows.fnLinesNewRow.veiledFits aam (Tryz.f3).params.toList ((Tryz.f3).params.toList++Rows.fnLinesNewSpec.plain.varTypes aam++(Tryz.f3).resultTypes.toList))=true:=by kernel_rfl
end
end Go.Proofs.YteogppapbognjaaGreatDoor
