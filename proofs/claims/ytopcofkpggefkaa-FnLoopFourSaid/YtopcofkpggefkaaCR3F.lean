/-
  FnLoopFour: closed facts of its row, one by one. No statement is proved here.
-/
import Derived.Test.YtopcofkpggefkaaCRP
namespace Go.Proofs.Ytopcofkpggefkaa
open Go Go.ChangeShapes Go.WideShapes Go.ChangeAt Go.RowKit

theorem loopFour_f1 : (Rows.fnLoopFourRow.wf (OpenSpec.ofChange Rows.fnLoopFourSpec)) = true := by kernel_rfl
theorem loopFour_f4 : ((Try.f9).params.all (Try.prog.readableRec ·)) = true := by kernel_rfl
theorem loopFour_f5 : (namedTie Try.prog Rows.fnLoopFourRow.named Rows.fnLoopFourSpec.vars) = true := by kernel_rfl
theorem loopFour_f6 : ((Rows.fnLoopFourRow.stops == [])) = true := by kernel_rfl
theorem loopFour_f8 : ((Rows.fnLoopFourRow.knobs == [])) = true := by kernel_rfl
theorem loopFour_f10 : ((Rows.fnLoopFourRow.inPlace == Try.prog.inPlace 9)) = true := by kernel_rfl
theorem loopFour_f11 : ((Rows.fnLoopFourRow.unfollowed == Try.prog.unfollowed 9)) = true := by kernel_rfl
theorem loopFour_f12 : ((Rows.fnLoopFourRow.recurses == Try.prog.recurses 9)) = true := by kernel_rfl
theorem loopFour_f13 : ((Rows.fnLoopFourRow.named == Try.prog.varsNamed 9)) = true := by kernel_rfl
theorem loopFour_f14 : ((Rows.fnLoopFourRow.maps == ((Try.f9).params.toList ++ Rows.fnLoopFourSpec.plain.varTypes Try.prog).any (Try.prog.mapsRec ·))) = true := by kernel_rfl
theorem loopFour_f15 : ((Rows.fnLoopFourRow.ifaces == ((Try.f9).params.toList ++ Rows.fnLoopFourSpec.plain.varTypes Try.prog).any (Try.prog.ifacesRec ·))) = true := by kernel_rfl
theorem loopFour_f16 : ((Rows.fnLoopFourRow.mapsOut == Try.prog.mapsAmong (Try.f9).resultTypes.toList)) = true := by kernel_rfl
theorem loopFour_f17 : ((Rows.fnLoopFourRow.loops == ((Try.f9).params.toList ++ Rows.fnLoopFourSpec.plain.varTypes Try.prog).any (Try.prog.loopsFrom ·))) = true := by kernel_rfl
theorem loopFour_f18 : ((Rows.fnLoopFourRow.wideKeys == ((Try.f9).params.toList ++ Rows.fnLoopFourSpec.plain.varTypes Try.prog ++ (Try.f9).resultTypes.toList).any (Try.prog.wideKeysFrom ·))) = true := by kernel_rfl
theorem loopFour_f19 : (Rows.fnLoopFourSpec.vars.all (Try.prog.varReadable ·)) = true := by kernel_rfl
theorem loopFour_f20 : ((Try.f9).resultTypes.all (fun t => Try.prog.readableRec t && decide (t < Try.prog.types.size))) = true := by kernel_rfl
theorem loopFour_f21 : ((Rows.fnLoopFourRow.ifacesOut == (Try.f9).resultTypes.toList.any (Try.prog.ifacesRec ·))) = true := by kernel_rfl
theorem loopFour_f22 : ((Rows.fnLoopFourRow.loopsOut == (Try.f9).resultTypes.toList.any (Try.prog.loopsFrom ·))) = true := by kernel_rfl
theorem loopFour_f24 : (Rows.fnLoopFourRow.shortTexts.isNone) = true := by kernel_rfl
theorem loopFour_f28 : ((Try.prog.make == some Rows.fnLoopFourRow.make)) = true := by kernel_rfl
theorem loopFour_f29 : ((Rows.fnLoopFourRow.kinds == (if Rows.fnLoopFourRow.domain.isEmpty then [] else (Try.f9).params.toList.map fun t => match Try.prog.underlying t with | some (.int k) => some k | _ => none))) = true := by kernel_rfl
theorem loopFour_f30 : ((Rows.fnLoopFourRow.pinned == Rows.fnLoopFourRow.pinnedBy)) = true := by kernel_rfl
theorem loopFour_f31 : ((Rows.fnLoopFourRow.veiled == ((Try.f9).params.toList ++ Rows.fnLoopFourSpec.plain.varTypes Try.prog ++ (Try.f9).resultTypes.toList).any (Try.prog.veiledRec ·))) = true := by kernel_rfl
theorem loopFour_f32 : (Rows.fnLoopFourRow.veiledFits Try.prog (Try.f9).params.toList ((Try.f9).params.toList ++ Rows.fnLoopFourSpec.plain.varTypes Try.prog ++ (Try.f9).resultTypes.toList)) = true := by kernel_rfl
end Go.Proofs.Ytopcofkpggefkaa
