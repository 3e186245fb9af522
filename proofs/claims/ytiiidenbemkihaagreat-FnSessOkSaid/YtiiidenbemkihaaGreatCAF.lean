/-
  FnSessOk: closed facts of its row, one by one. No statement is proved here.
-/
import Derived.Test.YtiiidenbemkihaaGreatAR
namespace Go.Proofs.YtiiidenbemkihaaGreat
open Go
section
open Go Go.ChangeShapes Go.WideShapes Go.ChangeAt Go.RowKit
theorem Iav:(Rows.fnSessOkRow.wf (OpenSpec.ofChange Rows.fnSessOkSpec))=true:=by kernel_rfl
theorem Jav:((Tryz.f11).params.all (Tryz.prog.readableRec ·))=true:=by kernel_rfl
theorem Kav:(namedTie Tryz.prog Rows.fnSessOkRow.named Rows.fnSessOkSpec.vars)=true:=by kernel_rfl
theorem Lav:((Rows.fnSessOkRow.stops == []))=true:=by kernel_rfl
theorem Mav:((Rows.fnSessOkRow.knobs == []))=true:=by kernel_rfl
theorem Nav:((Rows.fnSessOkRow.inPlace == Tryz.prog.inPlace 11))=true:=by kernel_rfl
theorem Oav:((Rows.fnSessOkRow.unfollowed == Tryz.prog.unfollowed 11))=true:=by kernel_rfl
theorem Pav:((Rows.fnSessOkRow.recurses == Tryz.prog.recurses 11))=true:=by kernel_rfl
theorem Qav:((Rows.fnSessOkRow.named == Tryz.prog.varsNamed 11))=true:=by kernel_rfl
theorem Rav:((Rows.fnSessOkRow.maps == ((Tryz.f11).params.toList++Rows.fnSessOkSpec.plain.varTypes Tryz.prog).any (Tryz.prog.mapsRec ·)))=true:=by kernel_rfl
theorem Sav:((Rows.fnSessOkRow.ifaces == ((Tryz.f11).params.toList++Rows.fnSessOkSpec.plain.varTypes Tryz.prog).any (Tryz.prog.ifacesRec ·)))=true:=by kernel_rfl
theorem Tav:((Rows.fnSessOkRow.mapsOut == Tryz.prog.mapsAmong (Tryz.f11).resultTypes.toList))=true:=by kernel_rfl
theorem Uav:((Rows.fnSessOkRow.loops == ((Tryz.f11).params.toList++Rows.fnSessOkSpec.plain.varTypes Tryz.prog).any (Tryz.prog.loopsFrom ·)))=true:=by kernel_rfl
theorem Vav:((Rows.fnSessOkRow.wideKeys == ((Tryz.f11).params.toList++Rows.fnSessOkSpec.plain.varTypes Tryz.prog++(Tryz.f11).resultTypes.toList).any (Tryz.prog.wideKeysFrom ·)))=true:=by kernel_rfl
theorem Wav:(Rows.fnSessOkSpec.vars.all (Tryz.prog.varReadable ·))=true:=by kernel_rfl
theorem Xav:((Tryz.f11).resultTypes.all (λt=>Tryz.prog.readableRec t&&decide (t < Tryz.prog.types.size)))=true:=by kernel_rfl
theorem Yav:((Rows.fnSessOkRow.ifacesOut == (Tryz.f11).resultTypes.toList.any (Tryz.prog.ifacesRec ·)))=true:=by kernel_rfl
theorem Zav:((Rows.fnSessOkRow.loopsOut == (Tryz.f11).resultTypes.toList.any (Tryz.prog.loopsFrom ·)))=true:=by kernel_rfl
theorem aaw:(Rows.fnSessOkRow.shortTexts.isNone)=true:=by kernel_rfl
theorem baw:((Tryz.prog.make == some Rows.fnSessOkRow.make))=true:=by kernel_rfl
theorem caw:((Rows.fnSessOkRow.kinds == (if Rows.fnSessOkRow.domain.isEmpty then [] else(Tryz.f11).params.toList.map λt=>match Tryz.prog.underlying t with|some (.int k)=>some k|_=>none)))=true:=by kernel_rfl
theorem daw:((Rows.fnSessOkRow.pinned == Rows.fnSessOkRow.pinnedBy))=true:=by kernel_rfl
theorem eaw:((Rows.fnSessOkRow.veiled == ((Tryz.f11).params.toList++Rows.fnSessOkSpec.plain.varTypes Tryz.prog++(Tryz.f11).resultTypes.toList).any (Tryz.prog.veiledRec ·)))=true:=by kernel_rfl
theorem faw:(Rows.fnSessOkRow.veiledFits Tryz.prog (Tryz.f11).params.toList ((Tryz.f11).params.toList++Rows.fnSessOkSpec.plain.varTypes Tryz.prog++(Tryz.f11).resultTypes.toList))=true:=by kernel_rfl
end
end Go.Proofs.YtiiidenbemkihaaGreat
