/-
  FnPlanIns: closed facts of its row, one by one. No statement is proved here.
-/
import Derived.Test.YthfkpijcajdnhaaGreatAR

namespace Go.Proofs.YthfkpijcajdnhaaGreat
open Go Go.ChangeShapes Go.WideShapes Go.ChangeAt Go.RowKit
theorem Rax:(Rows.fnPlanInsRow.wf (OpenSpec.ofChange Rows.fnPlanInsSpec))=true:=by kernel_rfl
theorem Sax:((Tryz.f7).params.all (Tryz.prog.readableRec ·))=true:=by kernel_rfl
theorem Tax:(namedTie Tryz.prog Rows.fnPlanInsRow.named Rows.fnPlanInsSpec.vars)=true:=by kernel_rfl
theorem Uax:((Rows.fnPlanInsRow.stops == []))=true:=by kernel_rfl
theorem Vax:((Rows.fnPlanInsRow.knobs == []))=true:=by kernel_rfl
theorem Wax:((Rows.fnPlanInsRow.inPlace == Tryz.prog.inPlace 7))=true:=by kernel_rfl
theorem Xax:((Rows.fnPlanInsRow.unfollowed == Tryz.prog.unfollowed 7))=true:=by kernel_rfl
theorem Yax:((Rows.fnPlanInsRow.recurses == Tryz.prog.recurses 7))=true:=by kernel_rfl
theorem Zax:((Rows.fnPlanInsRow.named == Tryz.prog.varsNamed 7))=true:=by kernel_rfl
theorem aay:((Rows.fnPlanInsRow.maps == ((Tryz.f7).params.toList++Rows.fnPlanInsSpec.plain.varTypes Tryz.prog).any (Tryz.prog.mapsRec ·)))=true:=by kernel_rfl
theorem bay:((Rows.fnPlanInsRow.ifaces == ((Tryz.f7).params.toList++Rows.fnPlanInsSpec.plain.varTypes Tryz.prog).any (Tryz.prog.ifacesRec ·)))=true:=by kernel_rfl
theorem cay:((Rows.fnPlanInsRow.mapsOut == Tryz.prog.mapsAmong (Tryz.f7).resultTypes.toList))=true:=by kernel_rfl
theorem day:((Rows.fnPlanInsRow.loops == ((Tryz.f7).params.toList++Rows.fnPlanInsSpec.plain.varTypes Tryz.prog).any (Tryz.prog.loopsFrom ·)))=true:=by kernel_rfl
theorem eay:((Rows.fnPlanInsRow.wideKeys == ((Tryz.f7).params.toList++Rows.fnPlanInsSpec.plain.varTypes Tryz.prog++(Tryz.f7).resultTypes.toList).any (Tryz.prog.wideKeysFrom ·)))=true:=by kernel_rfl
theorem fay:(Rows.fnPlanInsSpec.vars.all (Tryz.prog.varReadable ·))=true:=by kernel_rfl
theorem gay:((Tryz.f7).resultTypes.all (fun t=>Tryz.prog.readableRec t&&decide (t < Tryz.prog.types.size)))=true:=by kernel_rfl
theorem hay:((Rows.fnPlanInsRow.ifacesOut == (Tryz.f7).resultTypes.toList.any (Tryz.prog.ifacesRec ·)))=true:=by kernel_rfl
theorem iay:((Rows.fnPlanInsRow.loopsOut == (Tryz.f7).resultTypes.toList.any (Tryz.prog.loopsFrom ·)))=true:=by kernel_rfl
theorem jay:(Rows.fnPlanInsRow.shortTexts.isNone)=true:=by kernel_rfl
theorem kay:((Tryz.prog.make == some Rows.fnPlanInsRow.make))=true:=by kernel_rfl
theorem nay:((Rows.fnPlanInsRow.kinds == (if Rows.fnPlanInsRow.domain.isEmpty then [] else (Tryz.f7).params.toList.map fun t=>match Tryz.prog.underlying t with | some (.int k)=>some k | _=>none)))=true:=by kernel_rfl
theorem oay:((Rows.fnPlanInsRow.pinned == Rows.fnPlanInsRow.pinnedBy))=true:=by kernel_rfl
theorem pay:((Rows.fnPlanInsRow.veiled == ((Tryz.f7).params.toList++Rows.fnPlanInsSpec.plain.varTypes Tryz.prog++(Tryz.f7).resultTypes.toList).any (Tryz.prog.veiledRec ·)))=true:=by kernel_rfl
theorem qay:(Rows.fnPlanInsRow.veiledFits Tryz.prog (Tryz.f7).params.toList ((Tryz.f7).params.toList++Rows.fnPlanInsSpec.plain.varTypes Tryz.prog++(Tryz.f7).resultTypes.toList))=true:=by kernel_rfl
end Go.Proofs.YthfkpijcajdnhaaGreat
