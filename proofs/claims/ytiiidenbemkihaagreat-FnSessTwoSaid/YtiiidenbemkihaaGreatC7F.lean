/-
  FnSessTwo: closed facts of its row, one by one. No statement is proved here.
-/
import Derived.Test.YtiiidenbemkihaaGreatAR

namespace Go.Proofs.YtiiidenbemkihaaGreat
open Go Go.ChangeShapes Go.WideShapes Go.ChangeAt Go.RowKit
theorem PaI:(Rows.fnSessTwoRow.wf (OpenSpec.ofChange Rows.fnSessTwoSpec))=true:=by kernel_rfl
theorem QaI:((Tryz.f7).params.all (Tryz.prog.readableRec ·))=true:=by kernel_rfl
theorem RaI:(namedTie Tryz.prog Rows.fnSessTwoRow.named Rows.fnSessTwoSpec.vars)=true:=by kernel_rfl
theorem SaI:((Rows.fnSessTwoRow.stops == []))=true:=by kernel_rfl
theorem TaI:((Rows.fnSessTwoRow.knobs == []))=true:=by kernel_rfl
theorem UaI:((Rows.fnSessTwoRow.inPlace == Tryz.prog.inPlace 7))=true:=by kernel_rfl
theorem VaI:((Rows.fnSessTwoRow.unfollowed == Tryz.prog.unfollowed 7))=true:=by kernel_rfl
theorem WaI:((Rows.fnSessTwoRow.recurses == Tryz.prog.recurses 7))=true:=by kernel_rfl
theorem XaI:((Rows.fnSessTwoRow.named == Tryz.prog.varsNamed 7))=true:=by kernel_rfl
theorem YaI:((Rows.fnSessTwoRow.maps == ((Tryz.f7).params.toList++Rows.fnSessTwoSpec.plain.varTypes Tryz.prog).any (Tryz.prog.mapsRec ·)))=true:=by kernel_rfl
theorem ZaI:((Rows.fnSessTwoRow.ifaces == ((Tryz.f7).params.toList++Rows.fnSessTwoSpec.plain.varTypes Tryz.prog).any (Tryz.prog.ifacesRec ·)))=true:=by kernel_rfl
theorem aaJ:((Rows.fnSessTwoRow.mapsOut == Tryz.prog.mapsAmong (Tryz.f7).resultTypes.toList))=true:=by kernel_rfl
theorem baJ:((Rows.fnSessTwoRow.loops == ((Tryz.f7).params.toList++Rows.fnSessTwoSpec.plain.varTypes Tryz.prog).any (Tryz.prog.loopsFrom ·)))=true:=by kernel_rfl
theorem caJ:((Rows.fnSessTwoRow.wideKeys == ((Tryz.f7).params.toList++Rows.fnSessTwoSpec.plain.varTypes Tryz.prog++(Tryz.f7).resultTypes.toList).any (Tryz.prog.wideKeysFrom ·)))=true:=by kernel_rfl
theorem daJ:(Rows.fnSessTwoSpec.vars.all (Tryz.prog.varReadable ·))=true:=by kernel_rfl
theorem eaJ:((Tryz.f7).resultTypes.all (λt=>Tryz.prog.readableRec t&&decide (t < Tryz.prog.types.size)))=true:=by kernel_rfl
theorem faJ:((Rows.fnSessTwoRow.ifacesOut == (Tryz.f7).resultTypes.toList.any (Tryz.prog.ifacesRec ·)))=true:=by kernel_rfl
theorem gaJ:((Rows.fnSessTwoRow.loopsOut == (Tryz.f7).resultTypes.toList.any (Tryz.prog.loopsFrom ·)))=true:=by kernel_rfl
theorem haJ:(Rows.fnSessTwoRow.shortTexts.isNone)=true:=by kernel_rfl
theorem iaJ:((Tryz.prog.make == some Rows.fnSessTwoRow.make))=true:=by kernel_rfl
theorem jaJ:((Rows.fnSessTwoRow.kinds == (if Rows.fnSessTwoRow.domain.isEmpty then [] else(Tryz.f7).params.toList.map λt=>match Tryz.prog.underlying t with|some (.int k)=>some k|_=>none)))=true:=by kernel_rfl
theorem kaJ:((Rows.fnSessTwoRow.pinned == Rows.fnSessTwoRow.pinnedBy))=true:=by kernel_rfl
theorem laJ:((Rows.fnSessTwoRow.veiled == ((Tryz.f7).params.toList++Rows.fnSessTwoSpec.plain.varTypes Tryz.prog++(Tryz.f7).resultTypes.toList).any (Tryz.prog.veiledRec ·)))=true:=by kernel_rfl
theorem maJ:(Rows.fnSessTwoRow.veiledFits Tryz.prog (Tryz.f7).params.toList ((Tryz.f7).params.toList++Rows.fnSessTwoSpec.plain.varTypes Tryz.prog++(Tryz.f7).resultTypes.toList))=true:=by kernel_rfl
end Go.Proofs.YtiiidenbemkihaaGreat
