/-
  FnSessNew: closed facts of its row, one by one. No statement is proved here.
-/
import Derived.Test.YtopcofkpggefkaaX2

namespace Go.Proofs.Ytopcofkpggefkaa
open Go Go.ChangeShapes Go.WideShapes Go.ChangeAt Go.RowKit

theorem sessNew_f1 : (Rows.fnSessNewRow.wf (OpenSpec.ofChange Rows.fnSessNewSpec)) = true := by kernel_rfl
theorem sessNew_f4 : ((Try.f18).params.all (Try.prog.readableRec ·)) = true := by kernel_rfl
theorem sessNew_f5 : (namedTie Try.prog Rows.fnSessNewRow.named Rows.fnSessNewSpec.vars) = true := by kernel_rfl
theorem sessNew_f6 : ((Rows.fnSessNewRow.stops == [])) = true := by kernel_rfl
theorem sessNew_f8 : ((Rows.fnSessNewRow.knobs == [])) = true := by kernel_rfl
theorem sessNew_f10 : ((Rows.fnSessNewRow.inPlace == Try.prog.inPlace 18)) = true := by kernel_rfl
theorem sessNew_f11 : ((Rows.fnSessNewRow.unfollowed == Try.prog.unfollowed 18)) = true := by kernel_rfl
theorem sessNew_f12 : ((Rows.fnSessNewRow.recurses == Try.prog.recurses 18)) = true := by kernel_rfl
theorem sessNew_f13 : ((Rows.fnSessNewRow.named == Try.prog.varsNamed 18)) = true := by kernel_rfl
theorem sessNew_f14 : ((Rows.fnSessNewRow.maps == ((Try.f18).params.toList ++ Rows.fnSessNewSpec.plain.varTypes Try.prog).any (Try.prog.mapsRec ·))) = true := by kernel_rfl
theorem sessNew_f15 : ((Rows.fnSessNewRow.ifaces == ((Try.f18).params.toList ++ Rows.fnSessNewSpec.plain.varTypes Try.prog).any (Try.prog.ifacesRec ·))) = true := by kernel_rfl
theorem sessNew_f16 : ((Rows.fnSessNewRow.mapsOut == Try.prog.mapsAmong (Try.f18).resultTypes.toList)) = true := by kernel_rfl
theorem sessNew_f17 : ((Rows.fnSessNewRow.loops == ((Try.f18).params.toList ++ Rows.fnSessNewSpec.plain.varTypes Try.prog).any (Try.prog.loopsFrom ·))) = true := by kernel_rfl
theorem sessNew_f18 : ((Rows.fnSessNewRow.wideKeys == ((Try.f18).params.toList ++ Rows.fnSessNewSpec.plain.varTypes Try.prog ++ (Try.f18).resultTypes.toList).any (Try.prog.wideKeysFrom ·))) = true := by kernel_rfl
theorem sessNew_f19 : (Rows.fnSessNewSpec.vars.all (Try.prog.varReadable ·)) = true := by kernel_rfl
theorem sessNew_f20 : ((Try.f18).resultTypes.all (fun t => Try.prog.readableRec t && decide (t < Try.prog.types.size))) = true := by kernel_rfl
theorem sessNew_f21 : ((Rows.fnSessNewRow.ifacesOut == (Try.f18).resultTypes.toList.any (Try.prog.ifacesRec ·))) = true := by kernel_rfl
theorem sessNew_f22 : ((Rows.fnSessNewRow.loopsOut == (Try.f18).resultTypes.toList.any (Try.prog.loopsFrom ·))) = true := by kernel_rfl
theorem sessNew_f24 : (Rows.fnSessNewRow.shortTexts.isNone) = true := by kernel_rfl
theorem sessNew_f28 : ((Try.prog.make == some Rows.fnSessNewRow.make)) = true := by kernel_rfl
theorem sessNew_f29 : ((Rows.fnSessNewRow.kinds == (if Rows.fnSessNewRow.domain.isEmpty then [] else (Try.f18).params.toList.map fun t => match Try.prog.underlying t with | some (.int k) => some k | _ => none))) = true := by kernel_rfl
theorem sessNew_f30 : ((Rows.fnSessNewRow.pinned == Rows.fnSessNewRow.pinnedBy)) = true := by kernel_rfl
theorem sessNew_f31 : ((Rows.fnSessNewRow.veiled == ((Try.f18).params.toList ++ Rows.fnSessNewSpec.plain.varTypes Try.prog ++ (Try.f18).resultTypes.toList).any (Try.prog.veiledRec ·))) = true := by kernel_rfl
theorem sessNew_f32 : (Rows.fnSessNewRow.veiledFits Try.prog (Try.f18).params.toList ((Try.f18).params.toList ++ Rows.fnSessNewSpec.plain.varTypes Try.prog ++ (Try.f18).resultTypes.toList)) = true := by kernel_rfl
end Go.Proofs.Ytopcofkpggefkaa
