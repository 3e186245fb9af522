/-
  FnPlanStep: closed facts of its row, one by one. No statement is proved here.
-/
import Derived.Test.YthfkpijcajdnhaaGreatAR

namespace Go.Proofs.YthfkpijcajdnhaaGreat
open Go Go.ChangeShapes Go.WideShapes Go.ChangeAt Go.RowKit
theorem xaw:(Rows.fnPlanStepRow.wf (OpenSpec.ofChange Rows.fnPlanStepSpec))=true:=by kernel_rfl
theorem yaw:((Tryz.f5).params.all (Tryz.prog.readableRec ·))=true:=by kernel_rfl
theorem zaw:(namedTie Tryz.prog Rows.fnPlanStepRow.named Rows.fnPlanStepSpec.vars)=true:=by kernel_rfl
theorem Aaw:((Rows.fnPlanStepRow.stops == []))=true:=by kernel_rfl
theorem Baw:((Rows.fnPlanStepRow.knobs == []))=true:=by kernel_rfl
theorem Caw:((Rows.fnPlanStepRow.inPlace == Tryz.prog.inPlace 5))=true:=by kernel_rfl
theorem Daw:((Rows.fnPlanStepRow.unfollowed == Tryz.prog.unfollowed 5))=true:=by kernel_rfl
theorem Eaw:((Rows.fnPlanStepRow.recurses == Tryz.prog.recurses 5))=true:=by kernel_rfl
theorem Faw:((Rows.fnPlanStepRow.named == Tryz.prog.varsNamed 5))=true:=by kernel_rfl
theorem Gaw:((Rows.fnPlanStepRow.maps == ((Tryz.f5).params.toList++Rows.fnPlanStepSpec.plain.varTypes Tryz.prog).any (Tryz.prog.mapsRec ·)))=true:=by kernel_rfl
theorem Haw:((Rows.fnPlanStepRow.ifaces == ((Tryz.f5).params.toList++Rows.fnPlanStepSpec.plain.varTypes Tryz.prog).any (Tryz.prog.ifacesRec ·)))=true:=by kernel_rfl
theorem Iaw:((Rows.fnPlanStepRow.mapsOut == Tryz.prog.mapsAmong (Tryz.f5).resultTypes.toList))=true:=by kernel_rfl
theorem Jaw:((Rows.fnPlanStepRow.loops == ((Tryz.f5).params.toList++Rows.fnPlanStepSpec.plain.varTypes Tryz.prog).any (Tryz.prog.loopsFrom ·)))=true:=by kernel_rfl
theorem Kaw:((Rows.fnPlanStepRow.wideKeys == ((Tryz.f5).params.toList++Rows.fnPlanStepSpec.plain.varTypes Tryz.prog++(Tryz.f5).resultTypes.toList).any (Tryz.prog.wideKeysFrom ·)))=true:=by kernel_rfl
theorem Law:(Rows.fnPlanStepSpec.vars.all (Tryz.prog.varReadable ·))=true:=by kernel_rfl
theorem Maw:((Tryz.f5).resultTypes.all (fun t=>Tryz.prog.readableRec t&&decide (t < Tryz.prog.types.size)))=true:=by kernel_rfl
theorem Naw:((Rows.fnPlanStepRow.ifacesOut == (Tryz.f5).resultTypes.toList.any (Tryz.prog.ifacesRec ·)))=true:=by kernel_rfl
theorem Oaw:((Rows.fnPlanStepRow.loopsOut == (Tryz.f5).resultTypes.toList.any (Tryz.prog.loopsFrom ·)))=true:=by kernel_rfl
theorem Paw:(Rows.fnPlanStepRow.shortTexts.isNone)=true:=by kernel_rfl
theorem Qaw:((Tryz.prog.make == some Rows.fnPlanStepRow.make))=true:=by kernel_rfl
theorem Raw:((Rows.fnPlanStepRow.kinds == (if Rows.fnPlanStepRow.domain.isEmpty then [] else (Tryz.f5).params.toList.map fun t=>match Tryz.prog.underlying t with | some (.int k)=>some k | _=>none)))=true:=by kernel_rfl
theorem Saw:((Rows.fnPlanStepRow.pinned == Rows.fnPlanStepRow.pinnedBy))=true:=by kernel_rfl
theorem Taw:((Rows.fnPlanStepRow.veiled == ((Tryz.f5).params.toList++Rows.fnPlanStepSpec.plain.varTypes Tryz.prog++(Tryz.f5).resultTypes.toList).any (Tryz.prog.veiledRec ·)))=true:=by kernel_rfl
theorem Uaw:(Rows.fnPlanStepRow.veiledFits Tryz.prog (Tryz.f5).params.toList ((Tryz.f5).params.toList++Rows.fnPlanStepSpec.plain.varTypes Tryz.prog++(Tryz.f5).resultTypes.toList))=true:=by kernel_rfl
end Go.Proofs.YthfkpijcajdnhaaGreat
