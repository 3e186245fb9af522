/-
  FnPlanAhead: closed facts of its row, one by one. No statement is proved here.
-/
import Derived.Test.YthfkpijcajdnhaaGreatAR

namespace Go.Proofs.YthfkpijcajdnhaaGreat
open Go Go.ChangeShapes Go.WideShapes Go.ChangeAt Go.RowKit
theorem Mam:(Rows.fnPlanAheadRow.wf (OpenSpec.ofChange Rows.fnPlanAheadSpec))=true:=by kernel_rfl
theorem Nam:((Tryz.f9).params.all (Tryz.prog.readableRec ·))=true:=by kernel_rfl
theorem Oam:(namedTie Tryz.prog Rows.fnPlanAheadRow.named Rows.fnPlanAheadSpec.vars)=true:=by kernel_rfl
theorem Pam:((Rows.fnPlanAheadRow.stops == []))=true:=by kernel_rfl
theorem Qam:((Rows.fnPlanAheadRow.knobs == []))=true:=by kernel_rfl
theorem Ram:((Rows.fnPlanAheadRow.inPlace == Tryz.prog.inPlace 9))=true:=by kernel_rfl
theorem Sam:((Rows.fnPlanAheadRow.unfollowed == Tryz.prog.unfollowed 9))=true:=by kernel_rfl
theorem Tam:((Rows.fnPlanAheadRow.recurses == Tryz.prog.recurses 9))=true:=by kernel_rfl
theorem Uam:((Rows.fnPlanAheadRow.named == Tryz.prog.varsNamed 9))=true:=by kernel_rfl
theorem Vam:((Rows.fnPlanAheadRow.maps == ((Tryz.f9).params.toList++Rows.fnPlanAheadSpec.plain.varTypes Tryz.prog).any (Tryz.prog.mapsRec ·)))=true:=by kernel_rfl
theorem Wam:((Rows.fnPlanAheadRow.ifaces == ((Tryz.f9).params.toList++Rows.fnPlanAheadSpec.plain.varTypes Tryz.prog).any (Tryz.prog.ifacesRec ·)))=true:=by kernel_rfl
theorem Xam:((Rows.fnPlanAheadRow.mapsOut == Tryz.prog.mapsAmong (Tryz.f9).resultTypes.toList))=true:=by kernel_rfl
theorem Yam:((Rows.fnPlanAheadRow.loops == ((Tryz.f9).params.toList++Rows.fnPlanAheadSpec.plain.varTypes Tryz.prog).any (Tryz.prog.loopsFrom ·)))=true:=by kernel_rfl
theorem Zam:((Rows.fnPlanAheadRow.wideKeys == ((Tryz.f9).params.toList++Rows.fnPlanAheadSpec.plain.varTypes Tryz.prog++(Tryz.f9).resultTypes.toList).any (Tryz.prog.wideKeysFrom ·)))=true:=by kernel_rfl
theorem aan:(Rows.fnPlanAheadSpec.vars.all (Tryz.prog.varReadable ·))=true:=by kernel_rfl
theorem ban:((Tryz.f9).resultTypes.all (λt=>Tryz.prog.readableRec t&&decide (t < Tryz.prog.types.size)))=true:=by kernel_rfl
theorem dan:((Rows.fnPlanAheadRow.ifacesOut == (Tryz.f9).resultTypes.toList.any (Tryz.prog.ifacesRec ·)))=true:=by kernel_rfl
theorem ean:((Rows.fnPlanAheadRow.loopsOut == (Tryz.f9).resultTypes.toList.any (Tryz.prog.loopsFrom ·)))=true:=by kernel_rfl
theorem fan:(Rows.fnPlanAheadRow.shortTexts.isNone)=true:=by kernel_rfl
theorem gan:((Tryz.prog.make == some Rows.fnPlanAheadRow.make))=true:=by kernel_rfl
theorem han:((Rows.fnPlanAheadRow.kinds == (if Rows.fnPlanAheadRow.domain.isEmpty then [] else (Tryz.f9).params.toList.map λt=>match Tryz.prog.underlying t with|some (.int k)=>some k|_=>none)))=true:=by kernel_rfl
theorem ian:((Rows.fnPlanAheadRow.pinned == Rows.fnPlanAheadRow.pinnedBy))=true:=by kernel_rfl
theorem jan:((Rows.fnPlanAheadRow.veiled == ((Tryz.f9).params.toList++Rows.fnPlanAheadSpec.plain.varTypes Tryz.prog++(Tryz.f9).resultTypes.toList).any (Tryz.prog.veiledRec ·)))=true:=by kernel_rfl
theorem kan:(Rows.fnPlanAheadRow.veiledFits Tryz.prog (Tryz.f9).params.toList ((Tryz.f9).params.toList++Rows.fnPlanAheadSpec.plain.varTypes Tryz.prog++(Tryz.f9).resultTypes.toList))=true:=by kernel_rfl
end Go.Proofs.YthfkpijcajdnhaaGreat
