/-
  FnLoopMore: closed facts of its row, one by one. No statement is proved here.
-/
import Derived.Test.YtopcofkpggefkaaE2

namespace Go.Proofs.Ytopcofkpggefkaa
open Go Go.ChangeShapes Go.WideShapes Go.ChangeAt Go.RowKit
theorem loopMore_f1 : (Rows.fnLoopMoreRow.wf (OpenSpec.ofChange Rows.fnLoopMoreSpec)) = true := by kernel_rfl
theorem loopMore_f4 : ((Try.f11).params.all (Try.prog.readableRec ·)) = true := by kernel_rfl
theorem loopMore_f5 : (namedTie Try.prog Rows.fnLoopMoreRow.named Rows.fnLoopMoreSpec.vars) = true := by kernel_rfl
theorem loopMore_f6 : ((Rows.fnLoopMoreRow.stops == [])) = true := by kernel_rfl
theorem loopMore_f8 : ((Rows.fnLoopMoreRow.knobs == [])) = true := by kernel_rfl
theorem loopMore_f10 : ((Rows.fnLoopMoreRow.inPlace == Try.prog.inPlace 11)) = true := by kernel_rfl
theorem loopMore_f11 : ((Rows.fnLoopMoreRow.unfollowed == Try.prog.unfollowed 11)) = true := by kernel_rfl
theorem loopMore_f12 : ((Rows.fnLoopMoreRow.recurses == Try.prog.recurses 11)) = true := by kernel_rfl
theorem loopMore_f13 : ((Rows.fnLoopMoreRow.named == Try.prog.varsNamed 11)) = true := by kernel_rfl
theorem loopMore_f14 : ((Rows.fnLoopMoreRow.maps == ((Try.f11).params.toList ++ Rows.fnLoopMoreSpec.plain.varTypes Try.prog).any (Try.prog.mapsRec ·))) = true := by kernel_rfl
theorem loopMore_f15 : ((Rows.fnLoopMoreRow.ifaces == ((Try.f11).params.toList ++ Rows.fnLoopMoreSpec.plain.varTypes Try.prog).any (Try.prog.ifacesRec ·))) = true := by kernel_rfl
theorem loopMore_f16 : ((Rows.fnLoopMoreRow.mapsOut == Try.prog.mapsAmong (Try.f11).resultTypes.toList)) = true := by kernel_rfl
theorem loopMore_f17 : ((Rows.fnLoopMoreRow.loops == ((Try.f11).params.toList ++ Rows.fnLoopMoreSpec.plain.varTypes Try.prog).any (Try.prog.loopsFrom ·))) = true := by kernel_rfl
theorem loopMore_f18 : ((Rows.fnLoopMoreRow.wideKeys == ((Try.f11).params.toList ++ Rows.fnLoopMoreSpec.plain.varTypes Try.prog ++ (Try.f11).resultTypes.toList).any (Try.prog.wideKeysFrom ·))) = true := by kernel_rfl
theorem loopMore_f19 : (Rows.fnLoopMoreSpec.vars.all (Try.prog.varReadable ·)) = true := by kernel_rfl
theorem loopMore_f20 : ((Try.f11).resultTypes.all (fun t => Try.prog.readableRec t && decide (t < Try.prog.types.size))) = true := by kernel_rfl
theorem loopMore_f21 : ((Rows.fnLoopMoreRow.ifacesOut == (Try.f11).resultTypes.toList.any (Try.prog.ifacesRec ·))) = true := by kernel_rfl
theorem loopMore_f22 : ((Rows.fnLoopMoreRow.loopsOut == (Try.f11).resultTypes.toList.any (Try.prog.loopsFrom ·))) = true := by kernel_rfl
theorem loopMore_f24 : (Rows.fnLoopMoreRow.shortTexts.isNone) = true := by kernel_rfl
theorem loopMore_f28 : ((Try.prog.make == some Rows.fnLoopMoreRow.make)) = true := by kernel_rfl
theorem loopMore_f29 : ((Rows.fnLoopMoreRow.kinds == (if Rows.fnLoopMoreRow.domain.isEmpty then [] else (Try.f11).params.toList.map fun t => match Try.prog.underlying t with | some (.int k) => some k | _ => none))) = true := by kernel_rfl
theorem loopMore_f30 : ((Rows.fnLoopMoreRow.pinned == Rows.fnLoopMoreRow.pinnedBy)) = true := by kernel_rfl
theorem loopMore_f31 : ((Rows.fnLoopMoreRow.veiled == ((Try.f11).params.toList ++ Rows.fnLoopMoreSpec.plain.varTypes Try.prog ++ (Try.f11).resultTypes.toList).any (Try.prog.veiledRec ·))) = true := by kernel_rfl
theorem loopMore_f32 : (Rows.fnLoopMoreRow.veiledFits Try.prog (Try.f11).params.toList ((Try.f11).params.toList ++ Rows.fnLoopMoreSpec.plain.varTypes Try.prog ++ (Try.f11).resultTypes.toList)) = true := by kernel_rfl
end Go.Proofs.Ytopcofkpggefkaa
