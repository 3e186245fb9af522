/-
  FnLoopFix: closed facts of its row, one by one. No statement is proved here.
-/
import Derived.Test.YtopcofkpggefkaaCRP
namespace Go.Proofs.Ytopcofkpggefkaa
open Go Go.ChangeShapes Go.WideShapes Go.ChangeAt Go.RowKit

theorem loopFix_f1 : (Rows.fnLoopFixRow.wf (OpenSpec.ofChange Rows.fnLoopFixSpec)) = true := by kernel_rfl
theorem loopFix_f4 : ((Try.f8).params.all (Try.prog.readableRec ·)) = true := by kernel_rfl
theorem loopFix_f5 : (namedTie Try.prog Rows.fnLoopFixRow.named Rows.fnLoopFixSpec.vars) = true := by kernel_rfl
theorem loopFix_f6 : ((Rows.fnLoopFixRow.stops == [])) = true := by kernel_rfl
theorem loopFix_f8 : ((Rows.fnLoopFixRow.knobs == [])) = true := by kernel_rfl
theorem loopFix_f10 : ((Rows.fnLoopFixRow.inPlace == Try.prog.inPlace 8)) = true := by kernel_rfl
theorem loopFix_f11 : ((Rows.fnLoopFixRow.unfollowed == Try.prog.unfollowed 8)) = true := by kernel_rfl
theorem loopFix_f12 : ((Rows.fnLoopFixRow.recurses == Try.prog.recurses 8)) = true := by kernel_rfl
theorem loopFix_f13 : ((Rows.fnLoopFixRow.named == Try.prog.varsNamed 8)) = true := by kernel_rfl
theorem loopFix_f14 : ((Rows.fnLoopFixRow.maps == ((Try.f8).params.toList ++ Rows.fnLoopFixSpec.plain.varTypes Try.prog).any (Try.prog.mapsRec ·))) = true := by kernel_rfl
theorem loopFix_f15 : ((Rows.fnLoopFixRow.ifaces == ((Try.f8).params.toList ++ Rows.fnLoopFixSpec.plain.varTypes Try.prog).any (Try.prog.ifacesRec ·))) = true := by kernel_rfl
theorem loopFix_f16 : ((Rows.fnLoopFixRow.mapsOut == Try.prog.mapsAmong (Try.f8).resultTypes.toList)) = true := by kernel_rfl
theorem loopFix_f17 : ((Rows.fnLoopFixRow.loops == ((Try.f8).params.toList ++ Rows.fnLoopFixSpec.plain.varTypes Try.prog).any (Try.prog.loopsFrom ·))) = true := by kernel_rfl
theorem loopFix_f18 : ((Rows.fnLoopFixRow.wideKeys == ((Try.f8).params.toList ++ Rows.fnLoopFixSpec.plain.varTypes Try.prog ++ (Try.f8).resultTypes.toList).any (Try.prog.wideKeysFrom ·))) = true := by kernel_rfl
theorem loopFix_f19 : (Rows.fnLoopFixSpec.vars.all (Try.prog.varReadable ·)) = true := by kernel_rfl
theorem loopFix_f20 : ((Try.f8).resultTypes.all (fun t => Try.prog.readableRec t && decide (t < Try.prog.types.size))) = true := by kernel_rfl
theorem loopFix_f21 : ((Rows.fnLoopFixRow.ifacesOut == (Try.f8).resultTypes.toList.any (Try.prog.ifacesRec ·))) = true := by kernel_rfl
theorem loopFix_f22 : ((Rows.fnLoopFixRow.loopsOut == (Try.f8).resultTypes.toList.any (Try.prog.loopsFrom ·))) = true := by kernel_rfl
theorem loopFix_f24 : (Rows.fnLoopFixRow.shortTexts.isNone) = true := by kernel_rfl
theorem loopFix_f28 : ((Try.prog.make == some Rows.fnLoopFixRow.make)) = true := by kernel_rfl
theorem loopFix_f29 : ((Rows.fnLoopFixRow.kinds == (if Rows.fnLoopFixRow.domain.isEmpty then [] else (Try.f8).params.toList.map fun t => match Try.prog.underlying t with | some (.int k) => some k | _ => none))) = true := by kernel_rfl
theorem loopFix_f30 : ((Rows.fnLoopFixRow.pinned == Rows.fnLoopFixRow.pinnedBy)) = true := by kernel_rfl
theorem loopFix_f31 : ((Rows.fnLoopFixRow.veiled == ((Try.f8).params.toList ++ Rows.fnLoopFixSpec.plain.varTypes Try.prog ++ (Try.f8).resultTypes.toList).any (Try.prog.veiledRec ·))) = true := by kernel_rfl
theorem loopFix_f32 : (Rows.fnLoopFixRow.veiledFits Try.prog (Try.f8).params.toList ((Try.f8).params.toList ++ Rows.fnLoopFixSpec.plain.varTypes Try.prog ++ (Try.f8).resultTypes.toList)) = true := by kernel_rfl
end Go.Proofs.Ytopcofkpggefkaa
