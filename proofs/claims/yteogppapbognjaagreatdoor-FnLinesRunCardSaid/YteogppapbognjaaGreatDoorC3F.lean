/-
  FnLinesRun: closed facts of its row, one by one. No statement is proved here.
-/
import Derived.Test.YteogppapbognjaaGreatDoorAR
namespace Go.Proofs.YteogppapbognjaaGreatDoor
open Go
open Go.Proofs.Tryz renaming prog→aal
section
open Go Go.ChangeShapes Go.WideShapes Go.ChangeAt Go.RowKit
theorem qam:(Rows.fnLinesRunRow.wf (OpenSpec.ofChange Rows.fnLinesRunSpec))=true:=by kernel_rfl
theorem ram:((Tryz.f5).params.all (aal.readableRec ·))=true:=by kernel_rfl
theorem sam:(namedTie aal Rows.fnLinesRunRow.named Rows.fnLinesRunSpec.vars)=true:=by kernel_rfl
theorem tam:((Rows.fnLinesRunRow.stops == []))=true:=by kernel_rfl
theorem uam:((Rows.fnLinesRunRow.knobs == []))=true:=by kernel_rfl
theorem vam:((Rows.fnLinesRunRow.inPlace == aal.inPlace 5))=true:=by kernel_rfl
theorem wam:((Rows.fnLinesRunRow.unfollowed == aal.unfollowed 5))=true:=by kernel_rfl
theorem xam:((Rows.fnLinesRunRow.recurses == aal.recurses 5))=true:=by kernel_rfl
theorem yam:((Rows.fnLinesRunRow.named == aal.varsNamed 5))=true:=by kernel_rfl
theorem zam:((Rows.fnLinesRunRow.maps == ((Tryz.f5).params.toList++Rows.fnLinesRunSpec.plain.varTypes aal).any (aal.mapsRec ·)))=true:=by kernel_rfl
theorem Aam:((Rows.fnLinesRunRow.ifaces == ((Tryz.f5).params.toList++Rows.fnLinesRunSpec.plain.varTypes aal).any (aal.ifacesRec ·)))=true:=by kernel_rfl
theorem Bam:((Rows.fnLinesRunRow.mapsOut == aal.mapsAmong (Tryz.f5).resultTypes.toList))=true:=by kernel_rfl
theorem Cam:((Rows.fnLinesRunRow.loops == ((Tryz.f5).params.toList++Rows.fnLinesRunSpec.plain.varTypes aal).any (aal.loopsFrom ·)))=true:=by kernel_rfl
theorem Dam:((Rows.fnLinesRunRow.wideKeys == ((Tryz.f5).params.toList++Rows.fnLinesRunSpec.plain.varTypes aal++(Tryz.f5).resultTypes.toList).any (aal.wideKeysFrom ·)))=true:=by kernel_rfl
theorem Eam:(Rows.fnLinesRunSpec.vars.all (aal.varReadable ·))=true:=by kernel_rfl
theorem Fam:((Tryz.f5).resultTypes.all (λt=>aal.readableRec t&&decide (t < aal.types.size)))=true:=by kernel_rfl
theorem Gam:((Rows.fnLinesRunRow.ifacesOut == (Tryz.f5).resultTypes.toList.any (aal.ifacesRec ·)))=true:=by kernel_rfl
theorem Ham:((Rows.fnLinesRunRow.loopsOut == (Tryz.f5).resultTypes.toList.any (aal.loopsFrom ·)))=true:=by kernel_rfl
theorem Iam:(Rows.fnLinesRunRow.shortTexts.isNone)=true:=by kernel_rfl
theorem Jam:((aal.make == some Rows.fnLinesRunRow.make))=true:=by kernel_rfl
theorem Kam:((Rows.fnLinesRunRow.kinds == (if Rows.fnLinesRunRow.domain.isEmpty then [] else(Tryz.f5).params.toList.map λt=>match aal.underlying t with|some (.int k)=>some k|_=>none)))=true:=by kernel_rfl
theorem Lam:((Rows.fnLinesRunRow.pinned == Rows.fnLinesRunRow.pinnedBy))=true:=by kernel_rfl
theorem Mam:((Rows.fnLinesRunRow.veiled == ((Tryz.f5).params.toList++Rows.fnLinesRunSpec.plain.varTypes aal++(Tryz.f5).resultTypes.toList).any (aal.veiledRec ·)))=true:=by kernel_rfl
theorem Nam:(Rows.fnLinesRunRow.veiledFits aal (Tryz.f5).params.toList ((Tryz.f5).params.toList++Rows.fnLinesRunSpec.plain.varTypes aal++(Tryz.f5).resultTypes.toList))=true:=by kernel_rfl
end
end Go.Proofs.YteogppapbognjaaGreatDoor
