/-
  FnLoopRounds: closed facts of its row, one by one. No statement is proved here.
-/
import Derived.Test.YtopcofkpggefkaaH2

namespace Go.Proofs.Ytopcofkpggefkaa
open Go Go.ChangeShapes Go.WideShapes Go.ChangeAt Go.RowKit
theorem loopRounds_f1 : (Rows.fnLoopRoundsRow.wf (OpenSpec.ofChange Rows.fnLoopRoundsSpec)) = true := by kernel_rfl
theorem loopRounds_f4 : ((Try.f15).params.all (Try.prog.readableRec ·)) = true := by kernel_rfl
theorem loopRounds_f5 : (namedTie Try.prog Rows.fnLoopRoundsRow.named Rows.fnLoopRoundsSpec.vars) = true := by kernel_rfl
theorem loopRounds_f6 : ((Rows.fnLoopRoundsRow.stops == [])) = true := by kernel_rfl
theorem loopRounds_f8 : ((Rows.fnLoopRoundsRow.knobs == [])) = true := by kernel_rfl
theorem loopRounds_f10 : ((Rows.fnLoopRoundsRow.inPlace == Try.prog.inPlace 15)) = true := by kernel_rfl
theorem loopRounds_f11 : ((Rows.fnLoopRoundsRow.unfollowed == Try.prog.unfollowed 15)) = true := by kernel_rfl
theorem loopRounds_f12 : ((Rows.fnLoopRoundsRow.recurses == Try.prog.recurses 15)) = true := by kernel_rfl
theorem loopRounds_f13 : ((Rows.fnLoopRoundsRow.named == Try.prog.varsNamed 15)) = true := by kernel_rfl
theorem loopRounds_f14 : ((Rows.fnLoopRoundsRow.maps == ((Try.f15).params.toList ++ Rows.fnLoopRoundsSpec.plain.varTypes Try.prog).any (Try.prog.mapsRec ·))) = true := by kernel_rfl
theorem loopRounds_f15 : ((Rows.fnLoopRoundsRow.ifaces == ((Try.f15).params.toList ++ Rows.fnLoopRoundsSpec.plain.varTypes Try.prog).any (Try.prog.ifacesRec ·))) = true := by kernel_rfl
theorem loopRounds_f16 : ((Rows.fnLoopRoundsRow.mapsOut == Try.prog.mapsAmong (Try.f15).resultTypes.toList)) = true := by kernel_rfl
theorem loopRounds_f17 : ((Rows.fnLoopRoundsRow.loops == ((Try.f15).params.toList ++ Rows.fnLoopRoundsSpec.plain.varTypes Try.prog).any (Try.prog.loopsFrom ·))) = true := by kernel_rfl
theorem loopRounds_f18 : ((Rows.fnLoopRoundsRow.wideKeys == ((Try.f15).params.toList ++ Rows.fnLoopRoundsSpec.plain.varTypes Try.prog ++ (Try.f15).resultTypes.toList).any (Try.prog.wideKeysFrom ·))) = true := by kernel_rfl
theorem loopRounds_f19 : (Rows.fnLoopRoundsSpec.vars.all (Try.prog.varReadable ·)) = true := by kernel_rfl
theorem loopRounds_f20 : ((Try.f15).resultTypes.all (fun t => Try.prog.readableRec t && decide (t < Try.prog.types.size))) = true := by kernel_rfl
theorem loopRounds_f21 : ((Rows.fnLoopRoundsRow.ifacesOut == (Try.f15).resultTypes.toList.any (Try.prog.ifacesRec ·))) = true := by kernel_rfl
theorem loopRounds_f22 : ((Rows.fnLoopRoundsRow.loopsOut == (Try.f15).resultTypes.toList.any (Try.prog.loopsFrom ·))) = true := by kernel_rfl
theorem loopRounds_f24 : (Rows.fnLoopRoundsRow.shortTexts.isNone) = true := by kernel_rfl
theorem loopRounds_f28 : ((Try.prog.make == some Rows.fnLoopRoundsRow.make)) = true := by kernel_rfl
theorem loopRounds_f29 : ((Rows.fnLoopRoundsRow.kinds == (if Rows.fnLoopRoundsRow.domain.isEmpty then [] else (Try.f15).params.toList.map fun t => match Try.prog.underlying t with | some (.int k) => some k | _ => none))) = true := by kernel_rfl
theorem loopRounds_f30 : ((Rows.fnLoopRoundsRow.pinned == Rows.fnLoopRoundsRow.pinnedBy)) = true := by kernel_rfl
theorem loopRounds_f31 : ((Rows.fnLoopRoundsRow.veiled == ((Try.f15).params.toList ++ Rows.fnLoopRoundsSpec.plain.varTypes Try.prog ++ (Try.f15).resultTypes.toList).any (Try.prog.veiledRec ·))) = true := by kernel_rfl
theorem loopRounds_f32 : (Rows.fnLoopRoundsRow.veiledFits Try.prog (Try.f15).params.toList ((Try.f15).params.toList ++ Rows.fnLoopRoundsSpec.plain.varTypes Try.prog ++ (Try.f15).resultTypes.toList)) = true := by kernel_rfl
end Go.Proofs.Ytopcofkpggefkaa
