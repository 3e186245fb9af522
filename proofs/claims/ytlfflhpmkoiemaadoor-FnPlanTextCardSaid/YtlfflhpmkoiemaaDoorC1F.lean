/-
  FnPlanText: closed facts of its row, one by one. No statement is proved here.
-/
import Derived.Test.YtlfflhpmkoiemaaDoorAR
namespace Go.Proofs.YtlfflhpmkoiemaaDoor
open Go
section
open Go Go.ChangeShapes Go.WideShapes Go.ChangeAt Go.RowKit
theorem lz:(Rows.fnPlanTextRow.wf (OpenSpec.ofChange Rows.fnPlanTextSpec))=true:=by kernel_rfl
theorem mz:((Tryd.f3).params.all (Tryd.prog.readableRec ·))=true:=by kernel_rfl
theorem nz:(namedTie Tryd.prog Rows.fnPlanTextRow.named Rows.fnPlanTextSpec.vars)=true:=by kernel_rfl
theorem oz:((Rows.fnPlanTextRow.stops == []))=true:=by kernel_rfl
theorem qz:((Rows.fnPlanTextRow.knobs == []))=true:=by kernel_rfl
theorem rz:((Rows.fnPlanTextRow.inPlace == Tryd.prog.inPlace 3))=true:=by kernel_rfl
theorem tz:((Rows.fnPlanTextRow.unfollowed == Tryd.prog.unfollowed 3))=true:=by kernel_rfl
theorem uz:((Rows.fnPlanTextRow.recurses == Tryd.prog.recurses 3))=true:=by kernel_rfl
theorem wz:((Rows.fnPlanTextRow.named == Tryd.prog.varsNamed 3))=true:=by kernel_rfl
theorem xz:((Rows.fnPlanTextRow.maps == ((Tryd.f3).params.toList++Rows.fnPlanTextSpec.plain.varTypes Tryd.prog).any (Tryd.prog.mapsRec ·)))=true:=by kernel_rfl
theorem yz:((Rows.fnPlanTextRow.ifaces == ((Tryd.f3).params.toList++Rows.fnPlanTextSpec.plain.varTypes Tryd.prog).any (Tryd.prog.ifacesRec ·)))=true:=by kernel_rfl
theorem Az:((Rows.fnPlanTextRow.mapsOut == Tryd.prog.mapsAmong (Tryd.f3).resultTypes.toList))=true:=by kernel_rfl
theorem Bz:((Rows.fnPlanTextRow.loops == ((Tryd.f3).params.toList++Rows.fnPlanTextSpec.plain.varTypes Tryd.prog).any (Tryd.prog.loopsFrom ·)))=true:=by kernel_rfl
theorem Cz:((Rows.fnPlanTextRow.wideKeys == ((Tryd.f3).params.toList++Rows.fnPlanTextSpec.plain.varTypes Tryd.prog++(Tryd.f3).resultTypes.toList).any (Tryd.prog.wideKeysFrom ·)))=true:=by kernel_rfl
theorem Dz:(Rows.fnPlanTextSpec.vars.all (Tryd.prog.varReadable ·))=true:=by kernel_rfl
theorem Ez:((Tryd.f3).resultTypes.all (λt=>Tryd.prog.readableRec t&&decide (t < Tryd.prog.types.size)))=true:=by kernel_rfl
theorem Gz:((Rows.fnPlanTextRow.ifacesOut == (Tryd.f3).resultTypes.toList.any (Tryd.prog.ifacesRec ·)))=true:=by kernel_rfl
theorem Hz:((Rows.fnPlanTextRow.loopsOut == (Tryd.f3).resultTypes.toList.any (Tryd.prog.loopsFrom ·)))=true:=by kernel_rfl
theorem Iz:(Rows.fnPlanTextRow.shortTexts.isNone)=true:=by kernel_rfl
theorem Jz:((Tryd.prog.make == some Rows.fnPlanTextRow.make))=true:=by kernel_rfl
theorem Kz:((Rows.fnPlanTextRow.kinds == (if Rows.fnPlanTextRow.domain.isEmpty then [] else(Tryd.f3).params.toList.map λt=>match Tryd.prog.underlying t with|some (.int k)=>some k|_=>none)))=true:=by kernel_rfl
theorem Lz:((Rows.fnPlanTextRow.pinned == Rows.fnPlanTextRow.pinnedBy))=true:=by kernel_rfl
theorem Mz:((Rows.fnPlanTextRow.veiled == ((Tryd.f3).params.toList++Rows.fnPlanTextSpec.plain.varTypes Tryd.prog++(Tryd.f3).resultTypes.toList).any (Tryd.prog.veiledRec ·)))=true:=by kernel_rfl
theorem Nz:(Rows.fnPlanTextRow.veiledFits Tryd.prog (Tryd.f3).params.toList ((Tryd.f3).params.toList++Rows.fnPlanTextSpec.plain.varTypes Tryd.prog++(Tryd.f3).resultTypes.toList))=true:=by kernel_rfl
end
end Go.Proofs.YtlfflhpmkoiemaaDoor
