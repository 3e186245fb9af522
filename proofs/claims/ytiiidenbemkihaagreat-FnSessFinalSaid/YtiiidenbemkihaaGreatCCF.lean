/-
  FnSessFinal: closed facts of its row, one by one. No statement is proved here.
-/
import Derived.Test.YtiiidenbemkihaaGreatAR
namespace Go.Proofs.YtiiidenbemkihaaGreat
open Go
section
open Go Go.ChangeShapes Go.WideShapes Go.ChangeAt Go.RowKit
theorem gaA:(Rows.fnSessFinalRow.wf (OpenSpec.ofChange Rows.fnSessFinalSpec))=true:=by kernel_rfl
theorem haA:((Tryz.f14).params.all (Tryz.prog.readableRec ·))=true:=by kernel_rfl
theorem iaA:(namedTie Tryz.prog Rows.fnSessFinalRow.named Rows.fnSessFinalSpec.vars)=true:=by kernel_rfl
theorem jaA:((Rows.fnSessFinalRow.stops == []))=true:=by kernel_rfl
theorem kaA:((Rows.fnSessFinalRow.knobs == []))=true:=by kernel_rfl
theorem laA:((Rows.fnSessFinalRow.inPlace == Tryz.prog.inPlace 14))=true:=by kernel_rfl
theorem maA:((Rows.fnSessFinalRow.unfollowed == Tryz.prog.unfollowed 14))=true:=by kernel_rfl
theorem naA:((Rows.fnSessFinalRow.recurses == Tryz.prog.recurses 14))=true:=by kernel_rfl
theorem oaA:((Rows.fnSessFinalRow.named == Tryz.prog.varsNamed 14))=true:=by kernel_rfl
theorem paA:((Rows.fnSessFinalRow.maps == ((Tryz.f14).params.toList++Rows.fnSessFinalSpec.plain.varTypes Tryz.prog).any (Tryz.prog.mapsRec ·)))=true:=by kernel_rfl
theorem qaA:((Rows.fnSessFinalRow.ifaces == ((Tryz.f14).params.toList++Rows.fnSessFinalSpec.plain.varTypes Tryz.prog).any (Tryz.prog.ifacesRec ·)))=true:=by kernel_rfl
theorem raA:((Rows.fnSessFinalRow.mapsOut == Tryz.prog.mapsAmong (Tryz.f14).resultTypes.toList))=true:=by kernel_rfl
theorem saA:((Rows.fnSessFinalRow.loops == ((Tryz.f14).params.toList++Rows.fnSessFinalSpec.plain.varTypes Tryz.prog).any (Tryz.prog.loopsFrom ·)))=true:=by kernel_rfl
theorem taA:((Rows.fnSessFinalRow.wideKeys == ((Tryz.f14).params.toList++Rows.fnSessFinalSpec.plain.varTypes Tryz.prog++(Tryz.f14).resultTypes.toList).any (Tryz.prog.wideKeysFrom ·)))=true:=by kernel_rfl
theorem uaA:(Rows.fnSessFinalSpec.vars.all (Tryz.prog.varReadable ·))=true:=by kernel_rfl
theorem vaA:((Tryz.f14).resultTypes.all (λt=>Tryz.prog.readableRec t&&decide (t < Tryz.prog.types.size)))=true:=by kernel_rfl
theorem waA:((Rows.fnSessFinalRow.ifacesOut == (Tryz.f14).resultTypes.toList.any (Tryz.prog.ifacesRec ·)))=true:=by kernel_rfl
theorem xaA:((Rows.fnSessFinalRow.loopsOut == (Tryz.f14).resultTypes.toList.any (Tryz.prog.loopsFrom ·)))=true:=by kernel_rfl
theorem yaA:(Rows.fnSessFinalRow.shortTexts.isNone)=true:=by kernel_rfl
theorem zaA:((Tryz.prog.make == some Rows.fnSessFinalRow.make))=true:=by kernel_rfl
theorem AaA:((Rows.fnSessFinalRow.kinds == (if Rows.fnSessFinalRow.domain.isEmpty then [] else(Tryz.f14).params.toList.map λt=>match Tryz.prog.underlying t with|some (.int k)=>some k|_=>none)))=true:=by kernel_rfl
theorem BaA:((Rows.fnSessFinalRow.pinned == Rows.fnSessFinalRow.pinnedBy))=true:=by kernel_rfl
theorem CaA:((Rows.fnSessFinalRow.veiled == ((Tryz.f14).params.toList++Rows.fnSessFinalSpec.plain.varTypes Tryz.prog++(Tryz.f14).resultTypes.toList).any (Tryz.prog.veiledRec ·)))=true:=by kernel_rfl
theorem DaA:(Rows.fnSessFinalRow.veiledFits Tryz.prog (Tryz.f14).params.toList ((Tryz.f14).params.toList++Rows.fnSessFinalSpec.plain.varTypes Tryz.prog++(Tryz.f14).resultTypes.toList))=true:=by kernel_rfl
end
end Go.Proofs.YtiiidenbemkihaaGreat
