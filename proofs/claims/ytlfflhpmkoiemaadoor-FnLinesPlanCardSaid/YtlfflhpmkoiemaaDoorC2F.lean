/-
  FnLinesPlan: closed facts of its row, one by one. No statement is proved here.
-/
import Derived.Test.YtlfflhpmkoiemaaDoorAR
namespace Go.Proofs.YtlfflhpmkoiemaaDoor
open Go
section
open Go Go.ChangeShapes Go.WideShapes Go.ChangeAt Go.RowKit
theorem Rz:(Rows.fnLinesPlanRow.wf (OpenSpec.ofChange Rows.fnLinesPlanSpec))=true:=by kernel_rfl
theorem Sz:((Tryd.f4).params.all (Tryd.prog.readableRec ·))=true:=by kernel_rfl
theorem Tz:(namedTie Tryd.prog Rows.fnLinesPlanRow.named Rows.fnLinesPlanSpec.vars)=true:=by kernel_rfl
theorem Uz:((Rows.fnLinesPlanRow.stops == []))=true:=by kernel_rfl
theorem Vz:((Rows.fnLinesPlanRow.knobs == []))=true:=by kernel_rfl
theorem Wz:((Rows.fnLinesPlanRow.inPlace == Tryd.prog.inPlace 4))=true:=by kernel_rfl
theorem Xz:((Rows.fnLinesPlanRow.unfollowed == Tryd.prog.unfollowed 4))=true:=by kernel_rfl
theorem Yz:((Rows.fnLinesPlanRow.recurses == Tryd.prog.recurses 4))=true:=by kernel_rfl
theorem Zz:((Rows.fnLinesPlanRow.named == Tryd.prog.varsNamed 4))=true:=by kernel_rfl
theorem aA:((Rows.fnLinesPlanRow.maps == ((Tryd.f4).params.toList++Rows.fnLinesPlanSpec.plain.varTypes Tryd.prog).any (Tryd.prog.mapsRec ·)))=true:=by kernel_rfl
theorem bA:((Rows.fnLinesPlanRow.ifaces == ((Tryd.f4).params.toList++Rows.fnLinesPlanSpec.plain.varTypes Tryd.prog).any (Tryd.prog.ifacesRec ·)))=true:=by kernel_rfl
theorem cA:((Rows.fnLinesPlanRow.mapsOut == Tryd.prog.mapsAmong (Tryd.f4).resultTypes.toList))=true:=by kernel_rfl
theorem eA:((Rows.fnLinesPlanRow.loops == ((Tryd.f4).params.toList++Rows.fnLinesPlanSpec.plain.varTypes Tryd.prog).any (Tryd.prog.loopsFrom ·)))=true:=by kernel_rfl
theorem fA:((Rows.fnLinesPlanRow.wideKeys == ((Tryd.f4).params.toList++Rows.fnLinesPlanSpec.plain.varTypes Tryd.prog++(Tryd.f4).resultTypes.toList).any (Tryd.prog.wideKeysFrom ·)))=true:=by kernel_rfl
theorem gA:(Rows.fnLinesPlanSpec.vars.all (Tryd.prog.varReadable ·))=true:=by kernel_rfl
theorem iA:((Tryd.f4).resultTypes.all (λt=>Tryd.prog.readableRec t&&decide (t < Tryd.prog.types.size)))=true:=by kernel_rfl
theorem jA:((Rows.fnLinesPlanRow.ifacesOut == (Tryd.f4).resultTypes.toList.any (Tryd.prog.ifacesRec ·)))=true:=by kernel_rfl
theorem kA:((Rows.fnLinesPlanRow.loopsOut == (Tryd.f4).resultTypes.toList.any (Tryd.prog.loopsFrom ·)))=true:=by kernel_rfl
theorem lA:(Rows.fnLinesPlanRow.shortTexts.isNone)=true:=by kernel_rfl
theorem mA:((Tryd.prog.make == some Rows.fnLinesPlanRow.make))=true:=by kernel_rfl
theorem nA:((Rows.fnLinesPlanRow.kinds == (if Rows.fnLinesPlanRow.domain.isEmpty then [] else(Tryd.f4).params.toList.map λt=>match Tryd.prog.underlying t with|some (.int k)=>some k|_=>none)))=true:=by kernel_rfl
theorem oA:((Rows.fnLinesPlanRow.pinned == Rows.fnLinesPlanRow.pinnedBy))=true:=by kernel_rfl
theorem pA:((Rows.fnLinesPlanRow.veiled == ((Tryd.f4).params.toList++Rows.fnLinesPlanSpec.plain.varTypes Tryd.prog++(Tryd.f4).resultTypes.toList).any (Tryd.prog.veiledRec ·)))=true:=by kernel_rfl
theorem qA:(Rows.fnLinesPlanRow.veiledFits Tryd.prog (Tryd.f4).params.toList ((Tryd.f4).params.toList++Rows.fnLinesPlanSpec.plain.varTypes Tryd.prog++(Tryd.f4).resultTypes.toList))=true:=by kernel_rfl
end
end Go.Proofs.YtlfflhpmkoiemaaDoor
