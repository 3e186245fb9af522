/-
  FnLoopOut: closed facts of its row, one by one. No statement is proved here.
-/
import Derived.Test.YtopcofkpggefkaaI2

namespace Go.Proofs.Ytopcofkpggefkaa
open Go Go.ChangeShapes Go.WideShapes Go.ChangeAt Go.RowKit
theorem loopOut_f1 : (Rows.fnLoopOutRow.wf (OpenSpec.ofChange Rows.fnLoopOutSpec)) = true := by kernel_rfl
theorem loopOut_f4 : ((Try.f13).params.all (Try.prog.readableRec ·)) = true := by kernel_rfl
theorem loopOut_f5 : (namedTie Try.prog Rows.fnLoopOutRow.named Rows.fnLoopOutSpec.vars) = true := by kernel_rfl
theorem loopOut_f6 : ((Rows.fnLoopOutRow.stops == [])) = true := by kernel_rfl
theorem loopOut_f8 : ((Rows.fnLoopOutRow.knobs == [])) = true := by kernel_rfl
theorem loopOut_f10 : ((Rows.fnLoopOutRow.inPlace == Try.prog.inPlace 13)) = true := by kernel_rfl
theorem loopOut_f11 : ((Rows.fnLoopOutRow.unfollowed == Try.prog.unfollowed 13)) = true := by kernel_rfl
theorem loopOut_f12 : ((Rows.fnLoopOutRow.recurses == Try.prog.recurses 13)) = true := by kernel_rfl
theorem loopOut_f13 : ((Rows.fnLoopOutRow.named == Try.prog.varsNamed 13)) = true := by kernel_rfl
theorem loopOut_f14 : ((Rows.fnLoopOutRow.maps == ((Try.f13).params.toList ++ Rows.fnLoopOutSpec.plain.varTypes Try.prog).any (Try.prog.mapsRec ·))) = true := by kernel_rfl
theorem loopOut_f15 : ((Rows.fnLoopOutRow.ifaces == ((Try.f13).params.toList ++ Rows.fnLoopOutSpec.plain.varTypes Try.prog).any (Try.prog.ifacesRec ·))) = true := by kernel_rfl
theorem loopOut_f16 : ((Rows.fnLoopOutRow.mapsOut == Try.prog.mapsAmong (Try.f13).resultTypes.toList)) = true := by kernel_rfl
theorem loopOut_f17 : ((Rows.fnLoopOutRow.loops == ((Try.f13).params.toList ++ Rows.fnLoopOutSpec.plain.varTypes Try.prog).any (Try.prog.loopsFrom ·))) = true := by kernel_rfl
theorem loopOut_f18 : ((Rows.fnLoopOutRow.wideKeys == ((Try.f13).params.toList ++ Rows.fnLoopOutSpec.plain.varTypes Try.prog ++ (Try.f13).resultTypes.toList).any (Try.prog.wideKeysFrom ·))) = true := by kernel_rfl
theorem loopOut_f19 : (Rows.fnLoopOutSpec.vars.all (Try.prog.varReadable ·)) = true := by kernel_rfl
theorem loopOut_f20 : ((Try.f13).resultTypes.all (fun t => Try.prog.readableRec t && decide (t < Try.prog.types.size))) = true := by kernel_rfl
theorem loopOut_f21 : ((Rows.fnLoopOutRow.ifacesOut == (Try.f13).resultTypes.toList.any (Try.prog.ifacesRec ·))) = true := by kernel_rfl
theorem loopOut_f22 : ((Rows.fnLoopOutRow.loopsOut == (Try.f13).resultTypes.toList.any (Try.prog.loopsFrom ·))) = true := by kernel_rfl
theorem loopOut_f24 : (Rows.fnLoopOutRow.shortTexts.isNone) = true := by kernel_rfl
theorem loopOut_f28 : ((Try.prog.make == some Rows.fnLoopOutRow.make)) = true := by kernel_rfl
theorem loopOut_f29 : ((Rows.fnLoopOutRow.kinds == (if Rows.fnLoopOutRow.domain.isEmpty then [] else (Try.f13).params.toList.map fun t => match Try.prog.underlying t with | some (.int k) => some k | _ => none))) = true := by kernel_rfl
theorem loopOut_f30 : ((Rows.fnLoopOutRow.pinned == Rows.fnLoopOutRow.pinnedBy)) = true := by kernel_rfl
theorem loopOut_f31 : ((Rows.fnLoopOutRow.veiled == ((Try.f13).params.toList ++ Rows.fnLoopOutSpec.plain.varTypes Try.prog ++ (Try.f13).resultTypes.toList).any (Try.prog.veiledRec ·))) = true := by kernel_rfl
theorem loopOut_f32 : (Rows.fnLoopOutRow.veiledFits Try.prog (Try.f13).params.toList ((Try.f13).params.toList ++ Rows.fnLoopOutSpec.plain.varTypes Try.prog ++ (Try.f13).resultTypes.toList)) = true := by kernel_rfl
end Go.Proofs.Ytopcofkpggefkaa
