/-
  FnPlanSame: closed facts of its row, one by one. No statement is proved here.
-/
import Derived.Test.YthfkpijcajdnhaaGreatAR

namespace Go.Proofs.YthfkpijcajdnhaaGreat
open Go Go.ChangeShapes Go.WideShapes Go.ChangeAt Go.RowKit
theorem Haz:(Rows.fnPlanSameRow.wf (OpenSpec.ofChange Rows.fnPlanSameSpec))=true:=by kernel_rfl
theorem Iaz:((Tryz.f8).params.all (Tryz.prog.readableRec ·))=true:=by kernel_rfl
theorem Jaz:(namedTie Tryz.prog Rows.fnPlanSameRow.named Rows.fnPlanSameSpec.vars)=true:=by kernel_rfl
theorem Kaz:((Rows.fnPlanSameRow.stops == []))=true:=by kernel_rfl
theorem Laz:((Rows.fnPlanSameRow.knobs == []))=true:=by kernel_rfl
theorem Maz:((Rows.fnPlanSameRow.inPlace == Tryz.prog.inPlace 8))=true:=by kernel_rfl
theorem Naz:((Rows.fnPlanSameRow.unfollowed == Tryz.prog.unfollowed 8))=true:=by kernel_rfl
theorem Oaz:((Rows.fnPlanSameRow.recurses == Tryz.prog.recurses 8))=true:=by kernel_rfl
theorem Paz:((Rows.fnPlanSameRow.named == Tryz.prog.varsNamed 8))=true:=by kernel_rfl
theorem Qaz:((Rows.fnPlanSameRow.maps == ((Tryz.f8).params.toList++Rows.fnPlanSameSpec.plain.varTypes Tryz.prog).any (Tryz.prog.mapsRec ·)))=true:=by kernel_rfl
theorem Raz:((Rows.fnPlanSameRow.ifaces == ((Tryz.f8).params.toList++Rows.fnPlanSameSpec.plain.varTypes Tryz.prog).any (Tryz.prog.ifacesRec ·)))=true:=by kernel_rfl
theorem Saz:((Rows.fnPlanSameRow.mapsOut == Tryz.prog.mapsAmong (Tryz.f8).resultTypes.toList))=true:=by kernel_rfl
theorem Taz:((Rows.fnPlanSameRow.loops == ((Tryz.f8).params.toList++Rows.fnPlanSameSpec.plain.varTypes Tryz.prog).any (Tryz.prog.loopsFrom ·)))=true:=by kernel_rfl
theorem Uaz:((Rows.fnPlanSameRow.wideKeys == ((Tryz.f8).params.toList++Rows.fnPlanSameSpec.plain.varTypes Tryz.prog++(Tryz.f8).resultTypes.toList).any (Tryz.prog.wideKeysFrom ·)))=true:=by kernel_rfl
theorem Vaz:(Rows.fnPlanSameSpec.vars.all (Tryz.prog.varReadable ·))=true:=by kernel_rfl
theorem Waz:((Tryz.f8).resultTypes.all (fun t=>Tryz.prog.readableRec t&&decide (t < Tryz.prog.types.size)))=true:=by kernel_rfl
theorem Xaz:((Rows.fnPlanSameRow.ifacesOut == (Tryz.f8).resultTypes.toList.any (Tryz.prog.ifacesRec ·)))=true:=by kernel_rfl
theorem Yaz:((Rows.fnPlanSameRow.loopsOut == (Tryz.f8).resultTypes.toList.any (Tryz.prog.loopsFrom ·)))=true:=by kernel_rfl
theorem Zaz:(Rows.fnPlanSameRow.shortTexts.isNone)=true:=by kernel_rfl
theorem aaA:((Tryz.prog.make == some Rows.fnPlanSameRow.make))=true:=by kernel_rfl
theorem baA:((Rows.fnPlanSameRow.kinds == (if Rows.fnPlanSameRow.domain.isEmpty then [] else (Tryz.f8).params.toList.map fun t=>match Tryz.prog.underlying t with | some (.int k)=>some k | _=>none)))=true:=by kernel_rfl
theorem caA:((Rows.fnPlanSameRow.pinned == Rows.fnPlanSameRow.pinnedBy))=true:=by kernel_rfl
theorem daA:((Rows.fnPlanSameRow.veiled == ((Tryz.f8).params.toList++Rows.fnPlanSameSpec.plain.varTypes Tryz.prog++(Tryz.f8).resultTypes.toList).any (Tryz.prog.veiledRec ·)))=true:=by kernel_rfl
theorem eaA:(Rows.fnPlanSameRow.veiledFits Tryz.prog (Tryz.f8).params.toList ((Tryz.f8).params.toList++Rows.fnPlanSameSpec.plain.varTypes Tryz.prog++(Tryz.f8).resultTypes.toList))=true:=by kernel_rfl
end Go.Proofs.YthfkpijcajdnhaaGreat
