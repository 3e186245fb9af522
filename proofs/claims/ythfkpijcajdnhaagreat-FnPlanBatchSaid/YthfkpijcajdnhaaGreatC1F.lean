/-
  FnPlanBatch: closed facts of its row, one by one. No statement is proved here.
-/
import Derived.Test.YthfkpijcajdnhaaGreatAR

namespace Go.Proofs.YthfkpijcajdnhaaGreat
open Go Go.ChangeShapes Go.WideShapes Go.ChangeAt Go.RowKit
theorem Dag:(Rows.fnPlanBatchRow.wf (OpenSpec.ofChange Rows.fnPlanBatchSpec))=true:=by kernel_rfl
theorem Eag:((Tryz.f3).params.all (Tryz.prog.readableRec ·))=true:=by kernel_rfl
theorem Fag:(namedTie Tryz.prog Rows.fnPlanBatchRow.named Rows.fnPlanBatchSpec.vars)=true:=by kernel_rfl
theorem Gag:((Rows.fnPlanBatchRow.stops == []))=true:=by kernel_rfl
theorem Hag:((Rows.fnPlanBatchRow.knobs == []))=true:=by kernel_rfl
theorem Iag:((Rows.fnPlanBatchRow.inPlace == Tryz.prog.inPlace 3))=true:=by kernel_rfl
theorem Jag:((Rows.fnPlanBatchRow.unfollowed == Tryz.prog.unfollowed 3))=true:=by kernel_rfl
theorem Kag:((Rows.fnPlanBatchRow.recurses == Tryz.prog.recurses 3))=true:=by kernel_rfl
theorem Lag:((Rows.fnPlanBatchRow.named == Tryz.prog.varsNamed 3))=true:=by kernel_rfl
theorem Mag:((Rows.fnPlanBatchRow.maps == ((Tryz.f3).params.toList++Rows.fnPlanBatchSpec.plain.varTypes Tryz.prog).any (Tryz.prog.mapsRec ·)))=true:=by kernel_rfl
theorem Nag:((Rows.fnPlanBatchRow.ifaces == ((Tryz.f3).params.toList++Rows.fnPlanBatchSpec.plain.varTypes Tryz.prog).any (Tryz.prog.ifacesRec ·)))=true:=by kernel_rfl
theorem Oag:((Rows.fnPlanBatchRow.mapsOut == Tryz.prog.mapsAmong (Tryz.f3).resultTypes.toList))=true:=by kernel_rfl
theorem Pag:((Rows.fnPlanBatchRow.loops == ((Tryz.f3).params.toList++Rows.fnPlanBatchSpec.plain.varTypes Tryz.prog).any (Tryz.prog.loopsFrom ·)))=true:=by kernel_rfl
theorem Qag:((Rows.fnPlanBatchRow.wideKeys == ((Tryz.f3).params.toList++Rows.fnPlanBatchSpec.plain.varTypes Tryz.prog++(Tryz.f3).resultTypes.toList).any (Tryz.prog.wideKeysFrom ·)))=true:=by kernel_rfl
theorem Rag:(Rows.fnPlanBatchSpec.vars.all (Tryz.prog.varReadable ·))=true:=by kernel_rfl
theorem Sag:((Tryz.f3).resultTypes.all (fun t=>Tryz.prog.readableRec t&&decide (t < Tryz.prog.types.size)))=true:=by kernel_rfl
theorem Tag:((Rows.fnPlanBatchRow.ifacesOut == (Tryz.f3).resultTypes.toList.any (Tryz.prog.ifacesRec ·)))=true:=by kernel_rfl
theorem Uag:((Rows.fnPlanBatchRow.loopsOut == (Tryz.f3).resultTypes.toList.any (Tryz.prog.loopsFrom ·)))=true:=by kernel_rfl
theorem Vag:(Rows.fnPlanBatchRow.shortTexts.isNone)=true:=by kernel_rfl
theorem Wag:((Tryz.prog.make == some Rows.fnPlanBatchRow.make))=true:=by kernel_rfl
theorem Xag:((Rows.fnPlanBatchRow.kinds == (if Rows.fnPlanBatchRow.domain.isEmpty then [] else (Tryz.f3).params.toList.map fun t=>match Tryz.prog.underlying t with | some (.int k)=>some k | _=>none)))=true:=by kernel_rfl
theorem Yag:((Rows.fnPlanBatchRow.pinned == Rows.fnPlanBatchRow.pinnedBy))=true:=by kernel_rfl
theorem Zag:((Rows.fnPlanBatchRow.veiled == ((Tryz.f3).params.toList++Rows.fnPlanBatchSpec.plain.varTypes Tryz.prog++(Tryz.f3).resultTypes.toList).any (Tryz.prog.veiledRec ·)))=true:=by kernel_rfl
theorem aah:(Rows.fnPlanBatchRow.veiledFits Tryz.prog (Tryz.f3).params.toList ((Tryz.f3).params.toList++Rows.fnPlanBatchSpec.plain.varTypes Tryz.prog++(Tryz.f3).resultTypes.toList))=true:=by kernel_rfl
end Go.Proofs.YthfkpijcajdnhaaGreat
