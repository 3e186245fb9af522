/-
  FnPlanTop: closed facts of its row, one by one. No statement is proved here.
-/
import Derived.Test.YthfkpijcajdnhaaGreatAR

namespace Go.Proofs.YthfkpijcajdnhaaGreat
open Go Go.ChangeShapes Go.WideShapes Go.ChangeAt Go.RowKit
theorem mat:(Rows.fnPlanTopRow.wf (OpenSpec.ofChange Rows.fnPlanTopSpec))=true:=by kernel_rfl
theorem nat:((Tryz.f10).params.all (Tryz.prog.readableRec ·))=true:=by kernel_rfl
theorem oat:(namedTie Tryz.prog Rows.fnPlanTopRow.named Rows.fnPlanTopSpec.vars)=true:=by kernel_rfl
theorem qat:((Rows.fnPlanTopRow.stops == []))=true:=by kernel_rfl
theorem rat:((Rows.fnPlanTopRow.knobs == []))=true:=by kernel_rfl
theorem sat:((Rows.fnPlanTopRow.inPlace == Tryz.prog.inPlace 10))=true:=by kernel_rfl
theorem tat:((Rows.fnPlanTopRow.unfollowed == Tryz.prog.unfollowed 10))=true:=by kernel_rfl
theorem uat:((Rows.fnPlanTopRow.recurses == Tryz.prog.recurses 10))=true:=by kernel_rfl
theorem vat:((Rows.fnPlanTopRow.named == Tryz.prog.varsNamed 10))=true:=by kernel_rfl
theorem wat:((Rows.fnPlanTopRow.maps == ((Tryz.f10).params.toList++Rows.fnPlanTopSpec.plain.varTypes Tryz.prog).any (Tryz.prog.mapsRec ·)))=true:=by kernel_rfl
theorem xat:((Rows.fnPlanTopRow.ifaces == ((Tryz.f10).params.toList++Rows.fnPlanTopSpec.plain.varTypes Tryz.prog).any (Tryz.prog.ifacesRec ·)))=true:=by kernel_rfl
theorem yat:((Rows.fnPlanTopRow.mapsOut == Tryz.prog.mapsAmong (Tryz.f10).resultTypes.toList))=true:=by kernel_rfl
theorem zat:((Rows.fnPlanTopRow.loops == ((Tryz.f10).params.toList++Rows.fnPlanTopSpec.plain.varTypes Tryz.prog).any (Tryz.prog.loopsFrom ·)))=true:=by kernel_rfl
theorem Aat:((Rows.fnPlanTopRow.wideKeys == ((Tryz.f10).params.toList++Rows.fnPlanTopSpec.plain.varTypes Tryz.prog++(Tryz.f10).resultTypes.toList).any (Tryz.prog.wideKeysFrom ·)))=true:=by kernel_rfl
theorem Bat:(Rows.fnPlanTopSpec.vars.all (Tryz.prog.varReadable ·))=true:=by kernel_rfl
theorem Cat:((Tryz.f10).resultTypes.all (λt=>Tryz.prog.readableRec t&&decide (t < Tryz.prog.types.size)))=true:=by kernel_rfl
theorem Dat:((Rows.fnPlanTopRow.ifacesOut == (Tryz.f10).resultTypes.toList.any (Tryz.prog.ifacesRec ·)))=true:=by kernel_rfl
theorem Eat:((Rows.fnPlanTopRow.loopsOut == (Tryz.f10).resultTypes.toList.any (Tryz.prog.loopsFrom ·)))=true:=by kernel_rfl
theorem Fat:(Rows.fnPlanTopRow.shortTexts.isNone)=true:=by kernel_rfl
theorem Gat:((Tryz.prog.make == some Rows.fnPlanTopRow.make))=true:=by kernel_rfl
theorem Hat:((Rows.fnPlanTopRow.kinds == (if Rows.fnPlanTopRow.domain.isEmpty then [] else (Tryz.f10).params.toList.map λt=>match Tryz.prog.underlying t with|some (.int k)=>some k|_=>none)))=true:=by kernel_rfl
theorem Iat:((Rows.fnPlanTopRow.pinned == Rows.fnPlanTopRow.pinnedBy))=true:=by kernel_rfl
theorem Jat:((Rows.fnPlanTopRow.veiled == ((Tryz.f10).params.toList++Rows.fnPlanTopSpec.plain.varTypes Tryz.prog++(Tryz.f10).resultTypes.toList).any (Tryz.prog.veiledRec ·)))=true:=by kernel_rfl
theorem Kat:(Rows.fnPlanTopRow.veiledFits Tryz.prog (Tryz.f10).params.toList ((Tryz.f10).params.toList++Rows.fnPlanTopSpec.plain.varTypes Tryz.prog++(Tryz.f10).resultTypes.toList))=true:=by kernel_rfl
end Go.Proofs.YthfkpijcajdnhaaGreat
