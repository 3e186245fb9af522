/-
  FnPlanLess: closed facts of its row, one by one. No statement is proved here.
-/
import Derived.Test.YthfkpijcajdnhaaGreatAR

namespace Go.Proofs.YthfkpijcajdnhaaGreat
open Go Go.ChangeShapes Go.WideShapes Go.ChangeAt Go.RowKit
theorem Xau:(Rows.fnPlanLessRow.wf (OpenSpec.ofChange Rows.fnPlanLessSpec))=true:=by kernel_rfl
theorem Yau:((Tryz.f6).params.all (Tryz.prog.readableRec ·))=true:=by kernel_rfl
theorem Zau:(namedTie Tryz.prog Rows.fnPlanLessRow.named Rows.fnPlanLessSpec.vars)=true:=by kernel_rfl
theorem aav:((Rows.fnPlanLessRow.stops == []))=true:=by kernel_rfl
theorem bav:((Rows.fnPlanLessRow.knobs == []))=true:=by kernel_rfl
theorem cav:((Rows.fnPlanLessRow.inPlace == Tryz.prog.inPlace 6))=true:=by kernel_rfl
theorem dav:((Rows.fnPlanLessRow.unfollowed == Tryz.prog.unfollowed 6))=true:=by kernel_rfl
theorem eav:((Rows.fnPlanLessRow.recurses == Tryz.prog.recurses 6))=true:=by kernel_rfl
theorem fav:((Rows.fnPlanLessRow.named == Tryz.prog.varsNamed 6))=true:=by kernel_rfl
theorem gav:((Rows.fnPlanLessRow.maps == ((Tryz.f6).params.toList++Rows.fnPlanLessSpec.plain.varTypes Tryz.prog).any (Tryz.prog.mapsRec ·)))=true:=by kernel_rfl
theorem iav:((Rows.fnPlanLessRow.ifaces == ((Tryz.f6).params.toList++Rows.fnPlanLessSpec.plain.varTypes Tryz.prog).any (Tryz.prog.ifacesRec ·)))=true:=by kernel_rfl
theorem jav:((Rows.fnPlanLessRow.mapsOut == Tryz.prog.mapsAmong (Tryz.f6).resultTypes.toList))=true:=by kernel_rfl
theorem kav:((Rows.fnPlanLessRow.loops == ((Tryz.f6).params.toList++Rows.fnPlanLessSpec.plain.varTypes Tryz.prog).any (Tryz.prog.loopsFrom ·)))=true:=by kernel_rfl
theorem lav:((Rows.fnPlanLessRow.wideKeys == ((Tryz.f6).params.toList++Rows.fnPlanLessSpec.plain.varTypes Tryz.prog++(Tryz.f6).resultTypes.toList).any (Tryz.prog.wideKeysFrom ·)))=true:=by kernel_rfl
theorem mav:(Rows.fnPlanLessSpec.vars.all (Tryz.prog.varReadable ·))=true:=by kernel_rfl
theorem oav:((Tryz.f6).resultTypes.all (fun t=>Tryz.prog.readableRec t&&decide (t < Tryz.prog.types.size)))=true:=by kernel_rfl
theorem pav:((Rows.fnPlanLessRow.ifacesOut == (Tryz.f6).resultTypes.toList.any (Tryz.prog.ifacesRec ·)))=true:=by kernel_rfl
theorem qav:((Rows.fnPlanLessRow.loopsOut == (Tryz.f6).resultTypes.toList.any (Tryz.prog.loopsFrom ·)))=true:=by kernel_rfl
theorem rav:(Rows.fnPlanLessRow.shortTexts.isNone)=true:=by kernel_rfl
theorem sav:((Tryz.prog.make == some Rows.fnPlanLessRow.make))=true:=by kernel_rfl
theorem tav:((Rows.fnPlanLessRow.kinds == (if Rows.fnPlanLessRow.domain.isEmpty then [] else (Tryz.f6).params.toList.map fun t=>match Tryz.prog.underlying t with | some (.int k)=>some k | _=>none)))=true:=by kernel_rfl
theorem uav:((Rows.fnPlanLessRow.pinned == Rows.fnPlanLessRow.pinnedBy))=true:=by kernel_rfl
theorem vav:((Rows.fnPlanLessRow.veiled == ((Tryz.f6).params.toList++Rows.fnPlanLessSpec.plain.varTypes Tryz.prog++(Tryz.f6).resultTypes.toList).any (Tryz.prog.veiledRec ·)))=true:=by kernel_rfl
theorem wav:(Rows.fnPlanLessRow.veiledFits Tryz.prog (Tryz.f6).params.toList ((Tryz.f6).params.toList++Rows.fnPlanLessSpec.plain.varTypes Tryz.prog++(Tryz.f6).resultTypes.toList))=true:=by kernel_rfl
end Go.Proofs.YthfkpijcajdnhaaGreat
