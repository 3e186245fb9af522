/-
  FnLoopNone: closed facts of its row, one by one. No statement is proved here.
-/
import Derived.Test.YtopcofkpggefkaaF2

namespace Go.Proofs.Ytopcofkpggefkaa
open Go Go.ChangeShapes Go.WideShapes Go.ChangeAt Go.RowKit
theorem loopNone_f1 : (Rows.fnLoopNoneRow.wf (OpenSpec.ofChange Rows.fnLoopNoneSpec)) = true := by kernel_rfl
theorem loopNone_f4 : ((Try.f12).params.all (Try.prog.readableRec ·)) = true := by kernel_rfl
theorem loopNone_f5 : (namedTie Try.prog Rows.fnLoopNoneRow.named Rows.fnLoopNoneSpec.vars) = true := by kernel_rfl
theorem loopNone_f6 : ((Rows.fnLoopNoneRow.stops == [])) = true := by kernel_rfl
theorem loopNone_f8 : ((Rows.fnLoopNoneRow.knobs == [])) = true := by kernel_rfl
theorem loopNone_f10 : ((Rows.fnLoopNoneRow.inPlace == Try.prog.inPlace 12)) = true := by kernel_rfl
theorem loopNone_f11 : ((Rows.fnLoopNoneRow.unfollowed == Try.prog.unfollowed 12)) = true := by kernel_rfl
theorem loopNone_f12 : ((Rows.fnLoopNoneRow.recurses == Try.prog.recurses 12)) = true := by kernel_rfl
theorem loopNone_f13 : ((Rows.fnLoopNoneRow.named == Try.prog.varsNamed 12)) = true := by kernel_rfl
theorem loopNone_f14 : ((Rows.fnLoopNoneRow.maps == ((Try.f12).params.toList ++ Rows.fnLoopNoneSpec.plain.varTypes Try.prog).any (Try.prog.mapsRec ·))) = true := by kernel_rfl
theorem loopNone_f15 : ((Rows.fnLoopNoneRow.ifaces == ((Try.f12).params.toList ++ Rows.fnLoopNoneSpec.plain.varTypes Try.prog).any (Try.prog.ifacesRec ·))) = true := by kernel_rfl
theorem loopNone_f16 : ((Rows.fnLoopNoneRow.mapsOut == Try.prog.mapsAmong (Try.f12).resultTypes.toList)) = true := by kernel_rfl
theorem loopNone_f17 : ((Rows.fnLoopNoneRow.loops == ((Try.f12).params.toList ++ Rows.fnLoopNoneSpec.plain.varTypes Try.prog).any (Try.prog.loopsFrom ·))) = true := by kernel_rfl
theorem loopNone_f18 : ((Rows.fnLoopNoneRow.wideKeys == ((Try.f12).params.toList ++ Rows.fnLoopNoneSpec.plain.varTypes Try.prog ++ (Try.f12).resultTypes.toList).any (Try.prog.wideKeysFrom ·))) = true := by kernel_rfl
theorem loopNone_f19 : (Rows.fnLoopNoneSpec.vars.all (Try.prog.varReadable ·)) = true := by kernel_rfl
theorem loopNone_f20 : ((Try.f12).resultTypes.all (fun t => Try.prog.readableRec t && decide (t < Try.prog.types.size))) = true := by kernel_rfl
theorem loopNone_f21 : ((Rows.fnLoopNoneRow.ifacesOut == (Try.f12).resultTypes.toList.any (Try.prog.ifacesRec ·))) = true := by kernel_rfl
theorem loopNone_f22 : ((Rows.fnLoopNoneRow.loopsOut == (Try.f12).resultTypes.toList.any (Try.prog.loopsFrom ·))) = true := by kernel_rfl
theorem loopNone_f24 : (Rows.fnLoopNoneRow.shortTexts.isNone) = true := by kernel_rfl
theorem loopNone_f28 : ((Try.prog.make == some Rows.fnLoopNoneRow.make)) = true := by kernel_rfl
theorem loopNone_f29 : ((Rows.fnLoopNoneRow.kinds == (if Rows.fnLoopNoneRow.domain.isEmpty then [] else (Try.f12).params.toList.map fun t => match Try.prog.underlying t with | some (.int k) => some k | _ => none))) = true := by kernel_rfl
theorem loopNone_f30 : ((Rows.fnLoopNoneRow.pinned == Rows.fnLoopNoneRow.pinnedBy)) = true := by kernel_rfl
theorem loopNone_f31 : ((Rows.fnLoopNoneRow.veiled == ((Try.f12).params.toList ++ Rows.fnLoopNoneSpec.plain.varTypes Try.prog ++ (Try.f12).resultTypes.toList).any (Try.prog.veiledRec ·))) = true := by kernel_rfl
theorem loopNone_f32 : (Rows.fnLoopNoneRow.veiledFits Try.prog (Try.f12).params.toList ((Try.f12).params.toList ++ Rows.fnLoopNoneSpec.plain.varTypes Try.prog ++ (Try.f12).resultTypes.toList)) = true := by kernel_rfl
end Go.Proofs.Ytopcofkpggefkaa
