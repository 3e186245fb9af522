/-
  FnLoopBatch: closed facts of its row, one by one. No statement is proved here.
-/
import Derived.Test.YtopcofkpggefkaaG2

namespace Go.Proofs.Ytopcofkpggefkaa
open Go Go.ChangeShapes Go.WideShapes Go.ChangeAt Go.RowKit
theorem loopBatch_f1 : (Rows.fnLoopBatchRow.wf (OpenSpec.ofChange Rows.fnLoopBatchSpec)) = true := by kernel_rfl
theorem loopBatch_f4 : ((Try.f14).params.all (Try.prog.readableRec ·)) = true := by kernel_rfl
theorem loopBatch_f5 : (namedTie Try.prog Rows.fnLoopBatchRow.named Rows.fnLoopBatchSpec.vars) = true := by kernel_rfl
theorem loopBatch_f6 : ((Rows.fnLoopBatchRow.stops == [])) = true := by kernel_rfl
theorem loopBatch_f8 : ((Rows.fnLoopBatchRow.knobs == [])) = true := by kernel_rfl
theorem loopBatch_f10 : ((Rows.fnLoopBatchRow.inPlace == Try.prog.inPlace 14)) = true := by kernel_rfl
theorem loopBatch_f11 : ((Rows.fnLoopBatchRow.unfollowed == Try.prog.unfollowed 14)) = true := by kernel_rfl
theorem loopBatch_f12 : ((Rows.fnLoopBatchRow.recurses == Try.prog.recurses 14)) = true := by kernel_rfl
theorem loopBatch_f13 : ((Rows.fnLoopBatchRow.named == Try.prog.varsNamed 14)) = true := by kernel_rfl
theorem loopBatch_f14 : ((Rows.fnLoopBatchRow.maps == ((Try.f14).params.toList ++ Rows.fnLoopBatchSpec.plain.varTypes Try.prog).any (Try.prog.mapsRec ·))) = true := by kernel_rfl
theorem loopBatch_f15 : ((Rows.fnLoopBatchRow.ifaces == ((Try.f14).params.toList ++ Rows.fnLoopBatchSpec.plain.varTypes Try.prog).any (Try.prog.ifacesRec ·))) = true := by kernel_rfl
theorem loopBatch_f16 : ((Rows.fnLoopBatchRow.mapsOut == Try.prog.mapsAmong (Try.f14).resultTypes.toList)) = true := by kernel_rfl
theorem loopBatch_f17 : ((Rows.fnLoopBatchRow.loops == ((Try.f14).params.toList ++ Rows.fnLoopBatchSpec.plain.varTypes Try.prog).any (Try.prog.loopsFrom ·))) = true := by kernel_rfl
theorem loopBatch_f18 : ((Rows.fnLoopBatchRow.wideKeys == ((Try.f14).params.toList ++ Rows.fnLoopBatchSpec.plain.varTypes Try.prog ++ (Try.f14).resultTypes.toList).any (Try.prog.wideKeysFrom ·))) = true := by kernel_rfl
theorem loopBatch_f19 : (Rows.fnLoopBatchSpec.vars.all (Try.prog.varReadable ·)) = true := by kernel_rfl
theorem loopBatch_f20 : ((Try.f14).resultTypes.all (fun t => Try.prog.readableRec t && decide (t < Try.prog.types.size))) = true := by kernel_rfl
theorem loopBatch_f21 : ((Rows.fnLoopBatchRow.ifacesOut == (Try.f14).resultTypes.toList.any (Try.prog.ifacesRec ·))) = true := by kernel_rfl
theorem loopBatch_f22 : ((Rows.fnLoopBatchRow.loopsOut == (Try.f14).resultTypes.toList.any (Try.prog.loopsFrom ·))) = true := by kernel_rfl
theorem loopBatch_f24 : (Rows.fnLoopBatchRow.shortTexts.isNone) = true := by kernel_rfl
theorem loopBatch_f28 : ((Try.prog.make == some Rows.fnLoopBatchRow.make)) = true := by kernel_rfl
theorem loopBatch_f29 : ((Rows.fnLoopBatchRow.kinds == (if Rows.fnLoopBatchRow.domain.isEmpty then [] else (Try.f14).params.toList.map fun t => match Try.prog.underlying t with | some (.int k) => some k | _ => none))) = true := by kernel_rfl
theorem loopBatch_f30 : ((Rows.fnLoopBatchRow.pinned == Rows.fnLoopBatchRow.pinnedBy)) = true := by kernel_rfl
theorem loopBatch_f31 : ((Rows.fnLoopBatchRow.veiled == ((Try.f14).params.toList ++ Rows.fnLoopBatchSpec.plain.varTypes Try.prog ++ (Try.f14).resultTypes.toList).any (Try.prog.veiledRec ·))) = true := by kernel_rfl
theorem loopBatch_f32 : (Rows.fnLoopBatchRow.veiledFits Try.prog (Try.f14).params.toList ((Try.f14).params.toList ++ Rows.fnLoopBatchSpec.plain.varTypes Try.prog ++ (Try.f14).resultTypes.toList)) = true := by kernel_rfl
end Go.Proofs.Ytopcofkpggefkaa
