/-
  FnPlanBoth: closed facts of its row, one by one. No statement is proved here.
-/
import Derived.Test.YthfkpijcajdnhaaGreatAR

namespace Go.Proofs.YthfkpijcajdnhaaGreat
open Go Go.ChangeShapes Go.WideShapes Go.ChangeAt Go.RowKit
theorem Xat:(Rows.fnPlanBothRow.wf (OpenSpec.ofChange Rows.fnPlanBothSpec))=true:=by kernel_rfl
theorem Yat:((Tryz.f4).params.all (Tryz.prog.readableRec ·))=true:=by kernel_rfl
theorem Zat:(namedTie Tryz.prog Rows.fnPlanBothRow.named Rows.fnPlanBothSpec.vars)=true:=by kernel_rfl
theorem aau:((Rows.fnPlanBothRow.stops == []))=true:=by kernel_rfl
theorem bau:((Rows.fnPlanBothRow.knobs == []))=true:=by kernel_rfl
theorem cau:((Rows.fnPlanBothRow.inPlace == Tryz.prog.inPlace 4))=true:=by kernel_rfl
theorem dau:((Rows.fnPlanBothRow.unfollowed == Tryz.prog.unfollowed 4))=true:=by kernel_rfl
theorem eau:((Rows.fnPlanBothRow.recurses == Tryz.prog.recurses 4))=true:=by kernel_rfl
theorem fau:((Rows.fnPlanBothRow.named == Tryz.prog.varsNamed 4))=true:=by kernel_rfl
theorem gau:((Rows.fnPlanBothRow.maps == ((Tryz.f4).params.toList++Rows.fnPlanBothSpec.plain.varTypes Tryz.prog).any (Tryz.prog.mapsRec ·)))=true:=by kernel_rfl
theorem hau:((Rows.fnPlanBothRow.ifaces == ((Tryz.f4).params.toList++Rows.fnPlanBothSpec.plain.varTypes Tryz.prog).any (Tryz.prog.ifacesRec ·)))=true:=by kernel_rfl
theorem iau:((Rows.fnPlanBothRow.mapsOut == Tryz.prog.mapsAmong (Tryz.f4).resultTypes.toList))=true:=by kernel_rfl
theorem jau:((Rows.fnPlanBothRow.loops == ((Tryz.f4).params.toList++Rows.fnPlanBothSpec.plain.varTypes Tryz.prog).any (Tryz.prog.loopsFrom ·)))=true:=by kernel_rfl
theorem kau:((Rows.fnPlanBothRow.wideKeys == ((Tryz.f4).params.toList++Rows.fnPlanBothSpec.plain.varTypes Tryz.prog++(Tryz.f4).resultTypes.toList).any (Tryz.prog.wideKeysFrom ·)))=true:=by kernel_rfl
theorem lau:(Rows.fnPlanBothSpec.vars.all (Tryz.prog.varReadable ·))=true:=by kernel_rfl
theorem mau:((Tryz.f4).resultTypes.all (fun t=>Tryz.prog.readableRec t&&decide (t < Tryz.prog.types.size)))=true:=by kernel_rfl
theorem nau:((Rows.fnPlanBothRow.ifacesOut == (Tryz.f4).resultTypes.toList.any (Tryz.prog.ifacesRec ·)))=true:=by kernel_rfl
theorem oau:((Rows.fnPlanBothRow.loopsOut == (Tryz.f4).resultTypes.toList.any (Tryz.prog.loopsFrom ·)))=true:=by kernel_rfl
theorem pau:(Rows.fnPlanBothRow.shortTexts.isNone)=true:=by kernel_rfl
theorem qau:((Tryz.prog.make == some Rows.fnPlanBothRow.make))=true:=by kernel_rfl
theorem rau:((Rows.fnPlanBothRow.kinds == (if Rows.fnPlanBothRow.domain.isEmpty then [] else (Tryz.f4).params.toList.map fun t=>match Tryz.prog.underlying t with | some (.int k)=>some k | _=>none)))=true:=by kernel_rfl
theorem sau:((Rows.fnPlanBothRow.pinned == Rows.fnPlanBothRow.pinnedBy))=true:=by kernel_rfl
theorem tau:((Rows.fnPlanBothRow.veiled == ((Tryz.f4).params.toList++Rows.fnPlanBothSpec.plain.varTypes Tryz.prog++(Tryz.f4).resultTypes.toList).any (Tryz.prog.veiledRec ·)))=true:=by kernel_rfl
theorem uau:(Rows.fnPlanBothRow.veiledFits Tryz.prog (Tryz.f4).params.toList ((Tryz.f4).params.toList++Rows.fnPlanBothSpec.plain.varTypes Tryz.prog++(Tryz.f4).resultTypes.toList))=true:=by kernel_rfl
end Go.Proofs.YthfkpijcajdnhaaGreat
