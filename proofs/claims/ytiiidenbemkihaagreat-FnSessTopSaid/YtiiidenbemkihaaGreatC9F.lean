/-
  FnSessTop: closed facts of its row, one by one. No statement is proved here.
-/
import Derived.Test.YtiiidenbemkihaaGreatAR
namespace Go.Proofs.YtiiidenbemkihaaGreat
open Go
section
open Go Go.ChangeShapes Go.WideShapes Go.ChangeAt Go.RowKit
theorem Eap:(Rows.fnSessTopRow.wf (OpenSpec.ofChange Rows.fnSessTopSpec))=true:=by kernel_rfl
theorem Fap:((Tryz.f12).params.all (Tryz.prog.readableRec ·))=true:=by kernel_rfl
theorem Gap:(namedTie Tryz.prog Rows.fnSessTopRow.named Rows.fnSessTopSpec.vars)=true:=by kernel_rfl
theorem Hap:((Rows.fnSessTopRow.stops == []))=true:=by kernel_rfl
theorem Iap:((Rows.fnSessTopRow.knobs == []))=true:=by kernel_rfl
theorem Jap:((Rows.fnSessTopRow.inPlace == Tryz.prog.inPlace 12))=true:=by kernel_rfl
theorem Kap:((Rows.fnSessTopRow.unfollowed == Tryz.prog.unfollowed 12))=true:=by kernel_rfl
theorem Lap:((Rows.fnSessTopRow.recurses == Tryz.prog.recurses 12))=true:=by kernel_rfl
theorem Map:((Rows.fnSessTopRow.named == Tryz.prog.varsNamed 12))=true:=by kernel_rfl
theorem Nap:((Rows.fnSessTopRow.maps == ((Tryz.f12).params.toList++Rows.fnSessTopSpec.plain.varTypes Tryz.prog).any (Tryz.prog.mapsRec ·)))=true:=by kernel_rfl
theorem Oap:((Rows.fnSessTopRow.ifaces == ((Tryz.f12).params.toList++Rows.fnSessTopSpec.plain.varTypes Tryz.prog).any (Tryz.prog.ifacesRec ·)))=true:=by kernel_rfl
theorem Pap:((Rows.fnSessTopRow.mapsOut == Tryz.prog.mapsAmong (Tryz.f12).resultTypes.toList))=true:=by kernel_rfl
theorem Qap:((Rows.fnSessTopRow.loops == ((Tryz.f12).params.toList++Rows.fnSessTopSpec.plain.varTypes Tryz.prog).any (Tryz.prog.loopsFrom ·)))=true:=by kernel_rfl
theorem Rap:((Rows.fnSessTopRow.wideKeys == ((Tryz.f12).params.toList++Rows.fnSessTopSpec.plain.varTypes Tryz.prog++(Tryz.f12).resultTypes.toList).any (Tryz.prog.wideKeysFrom ·)))=true:=by kernel_rfl
theorem Sap:(Rows.fnSessTopSpec.vars.all (Tryz.prog.varReadable ·))=true:=by kernel_rfl
theorem Tap:((Tryz.f12).resultTypes.all (λt=>Tryz.prog.readableRec t&&decide (t < Tryz.prog.types.size)))=true:=by kernel_rfl
theorem Uap:((Rows.fnSessTopRow.ifacesOut == (Tryz.f12).resultTypes.toList.any (Tryz.prog.ifacesRec ·)))=true:=by kernel_rfl
theorem Vap:((Rows.fnSessTopRow.loopsOut == (Tryz.f12).resultTypes.toList.any (Tryz.prog.loopsFrom ·)))=true:=by kernel_rfl
theorem Wap:(Rows.fnSessTopRow.shortTexts.isNone)=true:=by kernel_rfl
theorem Xap:((Tryz.prog.make == some Rows.fnSessTopRow.make))=true:=by kernel_rfl
theorem Yap:((Rows.fnSessTopRow.kinds == (if Rows.fnSessTopRow.domain.isEmpty then [] else(Tryz.f12).params.toList.map λt=>match Tryz.prog.underlying t with|some (.int k)=>some k|_=>none)))=true:=by kernel_rfl
theorem Zap:((Rows.fnSessTopRow.pinned == Rows.fnSessTopRow.pinnedBy))=true:=by kernel_rfl
theorem aaq:((Rows.fnSessTopRow.veiled == ((Tryz.f12).params.toList++Rows.fnSessTopSpec.plain.varTypes Tryz.prog++(Tryz.f12).resultTypes.toList).any (Tryz.prog.veiledRec ·)))=true:=by kernel_rfl
theorem baq:(Rows.fnSessTopRow.veiledFits Tryz.prog (Tryz.f12).params.toList ((Tryz.f12).params.toList++Rows.fnSessTopSpec.plain.varTypes Tryz.prog++(Tryz.f12).resultTypes.toList))=true:=by kernel_rfl
end
end Go.Proofs.YtiiidenbemkihaaGreat
