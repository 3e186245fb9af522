/-
  FnLoopFlow: closed facts of its row, one by one. No statement is proved here.
-/
import Derived.Test.YtopcofkpggefkaaD2

namespace Go.Proofs.Ytopcofkpggefkaa
open Go Go.ChangeShapes Go.WideShapes Go.ChangeAt Go.RowKit
theorem loopFlow_f1 : (Rows.fnLoopFlowRow.wf (OpenSpec.ofChange Rows.fnLoopFlowSpec)) = true := by kernel_rfl
theorem loopFlow_f4 : ((Try.f17).params.all (Try.prog.readableRec ·)) = true := by kernel_rfl
theorem loopFlow_f5 : (namedTie Try.prog Rows.fnLoopFlowRow.named Rows.fnLoopFlowSpec.vars) = true := by kernel_rfl
theorem loopFlow_f6 : ((Rows.fnLoopFlowRow.stops == [])) = true := by kernel_rfl
theorem loopFlow_f8 : ((Rows.fnLoopFlowRow.knobs == [])) = true := by kernel_rfl
theorem loopFlow_f10 : ((Rows.fnLoopFlowRow.inPlace == Try.prog.inPlace 17)) = true := by kernel_rfl
theorem loopFlow_f11 : ((Rows.fnLoopFlowRow.unfollowed == Try.prog.unfollowed 17)) = true := by kernel_rfl
theorem loopFlow_f12 : ((Rows.fnLoopFlowRow.recurses == Try.prog.recurses 17)) = true := by kernel_rfl
theorem loopFlow_f13 : ((Rows.fnLoopFlowRow.named == Try.prog.varsNamed 17)) = true := by kernel_rfl
theorem loopFlow_f14 : ((Rows.fnLoopFlowRow.maps == ((Try.f17).params.toList ++ Rows.fnLoopFlowSpec.plain.varTypes Try.prog).any (Try.prog.mapsRec ·))) = true := by kernel_rfl
theorem loopFlow_f15 : ((Rows.fnLoopFlowRow.ifaces == ((Try.f17).params.toList ++ Rows.fnLoopFlowSpec.plain.varTypes Try.prog).any (Try.prog.ifacesRec ·))) = true := by kernel_rfl
theorem loopFlow_f16 : ((Rows.fnLoopFlowRow.mapsOut == Try.prog.mapsAmong (Try.f17).resultTypes.toList)) = true := by kernel_rfl
theorem loopFlow_f17 : ((Rows.fnLoopFlowRow.loops == ((Try.f17).params.toList ++ Rows.fnLoopFlowSpec.plain.varTypes Try.prog).any (Try.prog.loopsFrom ·))) = true := by kernel_rfl
theorem loopFlow_f18 : ((Rows.fnLoopFlowRow.wideKeys == ((Try.f17).params.toList ++ Rows.fnLoopFlowSpec.plain.varTypes Try.prog ++ (Try.f17).resultTypes.toList).any (Try.prog.wideKeysFrom ·))) = true := by kernel_rfl
theorem loopFlow_f19 : (Rows.fnLoopFlowSpec.vars.all (Try.prog.varReadable ·)) = true := by kernel_rfl
theorem loopFlow_f20 : ((Try.f17).resultTypes.all (fun t => Try.prog.readableRec t && decide (t < Try.prog.types.size))) = true := by kernel_rfl
theorem loopFlow_f21 : ((Rows.fnLoopFlowRow.ifacesOut == (Try.f17).resultTypes.toList.any (Try.prog.ifacesRec ·))) = true := by kernel_rfl
theorem loopFlow_f22 : ((Rows.fnLoopFlowRow.loopsOut == (Try.f17).resultTypes.toList.any (Try.prog.loopsFrom ·))) = true := by kernel_rfl
theorem loopFlow_f24 : (Rows.fnLoopFlowRow.shortTexts.isNone) = true := by kernel_rfl
theorem loopFlow_f28 : ((Try.prog.make == some Rows.fnLoopFlowRow.make)) = true := by kernel_rfl
theorem loopFlow_f29 : ((Rows.fnLoopFlowRow.kinds == (if Rows.fnLoopFlowRow.domain.isEmpty then [] else (Try.f17).params.toList.map fun t => match Try.prog.underlying t with | some (.int k) => some k | _ => none))) = true := by kernel_rfl
theorem loopFlow_f30 : ((Rows.fnLoopFlowRow.pinned == Rows.fnLoopFlowRow.pinnedBy)) = true := by kernel_rfl
theorem loopFlow_f31 : ((Rows.fnLoopFlowRow.veiled == ((Try.f17).params.toList ++ Rows.fnLoopFlowSpec.plain.varTypes Try.prog ++ (Try.f17).resultTypes.toList).any (Try.prog.veiledRec ·))) = true := by kernel_rfl
theorem loopFlow_f32 : (Rows.fnLoopFlowRow.veiledFits Try.prog (Try.f17).params.toList ((Try.f17).params.toList ++ Rows.fnLoopFlowSpec.plain.varTypes Try.prog ++ (Try.f17).resultTypes.toList)) = true := by kernel_rfl
end Go.Proofs.Ytopcofkpggefkaa
