/-
  FnLoopSet: closed facts of its row, one by one. No statement is proved here.
-/
import Derived.Test.YtopcofkpggefkaaCRP
namespace Go.Proofs.Ytopcofkpggefkaa
open Go Go.ChangeShapes Go.WideShapes Go.ChangeAt Go.RowKit

theorem loopSet_f1 : (Rows.fnLoopSetRow.wf (OpenSpec.ofChange Rows.fnLoopSetSpec)) = true := by kernel_rfl
theorem loopSet_f4 : ((Try.f10).params.all (Try.prog.readableRec ·)) = true := by kernel_rfl
theorem loopSet_f5 : (namedTie Try.prog Rows.fnLoopSetRow.named Rows.fnLoopSetSpec.vars) = true := by kernel_rfl
theorem loopSet_f6 : ((Rows.fnLoopSetRow.stops == [])) = true := by kernel_rfl
theorem loopSet_f8 : ((Rows.fnLoopSetRow.knobs == [])) = true := by kernel_rfl
theorem loopSet_f10 : ((Rows.fnLoopSetRow.inPlace == Try.prog.inPlace 10)) = true := by kernel_rfl
theorem loopSet_f11 : ((Rows.fnLoopSetRow.unfollowed == Try.prog.unfollowed 10)) = true := by kernel_rfl
theorem loopSet_f12 : ((Rows.fnLoopSetRow.recurses == Try.prog.recurses 10)) = true := by kernel_rfl
theorem loopSet_f13 : ((Rows.fnLoopSetRow.named == Try.prog.varsNamed 10)) = true := by kernel_rfl
theorem loopSet_f14 : ((Rows.fnLoopSetRow.maps == ((Try.f10).params.toList ++ Rows.fnLoopSetSpec.plain.varTypes Try.prog).any (Try.prog.mapsRec ·))) = true := by kernel_rfl
theorem loopSet_f15 : ((Rows.fnLoopSetRow.ifaces == ((Try.f10).params.toList ++ Rows.fnLoopSetSpec.plain.varTypes Try.prog).any (Try.prog.ifacesRec ·))) = true := by kernel_rfl
theorem loopSet_f16 : ((Rows.fnLoopSetRow.mapsOut == Try.prog.mapsAmong (Try.f10).resultTypes.toList)) = true := by kernel_rfl
theorem loopSet_f17 : ((Rows.fnLoopSetRow.loops == ((Try.f10).params.toList ++ Rows.fnLoopSetSpec.plain.varTypes Try.prog).any (Try.prog.loopsFrom ·))) = true := by kernel_rfl
theorem loopSet_f18 : ((Rows.fnLoopSetRow.wideKeys == ((Try.f10).params.toList ++ Rows.fnLoopSetSpec.plain.varTypes Try.prog ++ (Try.f10).resultTypes.toList).any (Try.prog.wideKeysFrom ·))) = true := by kernel_rfl
theorem loopSet_f19 : (Rows.fnLoopSetSpec.vars.all (Try.prog.varReadable ·)) = true := by kernel_rfl
theorem loopSet_f20 : ((Try.f10).resultTypes.all (fun t => Try.prog.readableRec t && decide (t < Try.prog.types.size))) = true := by kernel_rfl
theorem loopSet_f21 : ((Rows.fnLoopSetRow.ifacesOut == (Try.f10).resultTypes.toList.any (Try.prog.ifacesRec ·))) = true := by kernel_rfl
theorem loopSet_f22 : ((Rows.fnLoopSetRow.loopsOut == (Try.f10).resultTypes.toList.any (Try.prog.loopsFrom ·))) = true := by kernel_rfl
theorem loopSet_f24 : (Rows.fnLoopSetRow.shortTexts.isNone) = true := by kernel_rfl
theorem loopSet_f28 : ((Try.prog.make == some Rows.fnLoopSetRow.make)) = true := by kernel_rfl
theorem loopSet_f29 : ((Rows.fnLoopSetRow.kinds == (if Rows.fnLoopSetRow.domain.isEmpty then [] else (Try.f10).params.toList.map fun t => match Try.prog.underlying t with | some (.int k) => some k | _ => none))) = true := by kernel_rfl
theorem loopSet_f30 : ((Rows.fnLoopSetRow.pinned == Rows.fnLoopSetRow.pinnedBy)) = true := by kernel_rfl
theorem loopSet_f31 : ((Rows.fnLoopSetRow.veiled == ((Try.f10).params.toList ++ Rows.fnLoopSetSpec.plain.varTypes Try.prog ++ (Try.f10).resultTypes.toList).any (Try.prog.veiledRec ·))) = true := by kernel_rfl
theorem loopSet_f32 : (Rows.fnLoopSetRow.veiledFits Try.prog (Try.f10).params.toList ((Try.f10).params.toList ++ Rows.fnLoopSetSpec.plain.varTypes Try.prog ++ (Try.f10).resultTypes.toList)) = true := by kernel_rfl
end Go.Proofs.Ytopcofkpggefkaa
