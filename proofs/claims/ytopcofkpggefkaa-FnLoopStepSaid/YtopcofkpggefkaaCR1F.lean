/-
  FnLoopStep: closed facts of its row, one by one. No statement is proved here.
-/
import Derived.Test.YtopcofkpggefkaaCRP
namespace Go.Proofs.Ytopcofkpggefkaa
open Go Go.ChangeShapes Go.WideShapes Go.ChangeAt Go.RowKit

theorem loopStep_f1 : (Rows.fnLoopStepRow.wf (OpenSpec.ofChange Rows.fnLoopStepSpec)) = true := by kernel_rfl
theorem loopStep_f4 : ((Try.f7).params.all (Try.prog.readableRec ·)) = true := by kernel_rfl
theorem loopStep_f5 : (namedTie Try.prog Rows.fnLoopStepRow.named Rows.fnLoopStepSpec.vars) = true := by kernel_rfl
theorem loopStep_f6 : ((Rows.fnLoopStepRow.stops == [])) = true := by kernel_rfl
theorem loopStep_f8 : ((Rows.fnLoopStepRow.knobs == [])) = true := by kernel_rfl
theorem loopStep_f10 : ((Rows.fnLoopStepRow.inPlace == Try.prog.inPlace 7)) = true := by kernel_rfl
theorem loopStep_f11 : ((Rows.fnLoopStepRow.unfollowed == Try.prog.unfollowed 7)) = true := by kernel_rfl
theorem loopStep_f12 : ((Rows.fnLoopStepRow.recurses == Try.prog.recurses 7)) = true := by kernel_rfl
theorem loopStep_f13 : ((Rows.fnLoopStepRow.named == Try.prog.varsNamed 7)) = true := by kernel_rfl
theorem loopStep_f14 : ((Rows.fnLoopStepRow.maps == ((Try.f7).params.toList ++ Rows.fnLoopStepSpec.plain.varTypes Try.prog).any (Try.prog.mapsRec ·))) = true := by kernel_rfl
theorem loopStep_f15 : ((Rows.fnLoopStepRow.ifaces == ((Try.f7).params.toList ++ Rows.fnLoopStepSpec.plain.varTypes Try.prog).any (Try.prog.ifacesRec ·))) = true := by kernel_rfl
theorem loopStep_f16 : ((Rows.fnLoopStepRow.mapsOut == Try.prog.mapsAmong (Try.f7).resultTypes.toList)) = true := by kernel_rfl
theorem loopStep_f17 : ((Rows.fnLoopStepRow.loops == ((Try.f7).params.toList ++ Rows.fnLoopStepSpec.plain.varTypes Try.prog).any (Try.prog.loopsFrom ·))) = true := by kernel_rfl
theorem loopStep_f18 : ((Rows.fnLoopStepRow.wideKeys == ((Try.f7).params.toList ++ Rows.fnLoopStepSpec.plain.varTypes Try.prog ++ (Try.f7).resultTypes.toList).any (Try.prog.wideKeysFrom ·))) = true := by kernel_rfl
theorem loopStep_f19 : (Rows.fnLoopStepSpec.vars.all (Try.prog.varReadable ·)) = true := by kernel_rfl
theorem loopStep_f20 : ((Try.f7).resultTypes.all (fun t => Try.prog.readableRec t && decide (t < Try.prog.types.size))) = true := by kernel_rfl
theorem loopStep_f21 : ((Rows.fnLoopStepRow.ifacesOut == (Try.f7).resultTypes.toList.any (Try.prog.ifacesRec ·))) = true := by kernel_rfl
theorem loopStep_f22 : ((Rows.fnLoopStepRow.loopsOut == (Try.f7).resultTypes.toList.any (Try.prog.loopsFrom ·))) = true := by kernel_rfl
theorem loopStep_f24 : (Rows.fnLoopStepRow.shortTexts.isNone) = true := by kernel_rfl
theorem loopStep_f28 : ((Try.prog.make == some Rows.fnLoopStepRow.make)) = true := by kernel_rfl
theorem loopStep_f29 : ((Rows.fnLoopStepRow.kinds == (if Rows.fnLoopStepRow.domain.isEmpty then [] else (Try.f7).params.toList.map fun t => match Try.prog.underlying t with | some (.int k) => some k | _ => none))) = true := by kernel_rfl
theorem loopStep_f30 : ((Rows.fnLoopStepRow.pinned == Rows.fnLoopStepRow.pinnedBy)) = true := by kernel_rfl
theorem loopStep_f31 : ((Rows.fnLoopStepRow.veiled == ((Try.f7).params.toList ++ Rows.fnLoopStepSpec.plain.varTypes Try.prog ++ (Try.f7).resultTypes.toList).any (Try.prog.veiledRec ·))) = true := by kernel_rfl
theorem loopStep_f32 : (Rows.fnLoopStepRow.veiledFits Try.prog (Try.f7).params.toList ((Try.f7).params.toList ++ Rows.fnLoopStepSpec.plain.varTypes Try.prog ++ (Try.f7).resultTypes.toList)) = true := by kernel_rfl
end Go.Proofs.Ytopcofkpggefkaa
