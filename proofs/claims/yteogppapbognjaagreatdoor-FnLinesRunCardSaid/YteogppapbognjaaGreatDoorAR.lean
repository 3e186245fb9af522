/-
  Closed facts of the program, one by one. The table of powers lies where the rows' list says. No statement is proved here.
-/
import Derived.Test.YteogppapbognjaaGreatDoorA3
import Derived.Test.YteogppapbognjaaGreatDoorRows
import Derived.Lib.LaidTab
import Derived.Stop.LaidErr
import Derived.MakeChecks
namespace Go.Proofs.YteogppapbognjaaGreatDoor
open Go
open Go.Proofs.Tryz renaming prog→aal
section
open Go Go.ChangeShapes Go.WideShapes Go.ChangeAt Go.RowKit
theorem own:ownKnob aal.godebug=none:=by kernel_rfl
theorem pf2:(laidOutB aal)=true:=by kernel_rfl
theorem pf3:(mapsRowed aal)=true:=by kernel_rfl
theorem pf7:((aal.stops == []))=true:=by kernel_rfl
theorem pf9:((aal.stopKnobs == []))=true:=by kernel_rfl
theorem Taj:((false == aal.plainKeys))=true:=by kernel_rfl
theorem Uaj:(aal.stopsHeard)=true:=by kernel_rfl
theorem Vaj:(aal.mayEnter)=true:=by kernel_rfl
theorem Waj:((false == aal.liftsFinal))=true:=by kernel_rfl
end
theorem Saj{n1 n2:String}{d1 d2:DataW Unit}{r:List (String×DataW Unit)}(hp:(((n1,d1)::(n2,d2)::("internal/strconv.uint64pow10",Rows.laid_internal_strconv_uint64pow10)::r).all λx=>x.2.handleName?.isNone)=true)(W:World)
  (h:laidMetH aal ((n1,d1)::(n2,d2)::("internal/strconv.uint64pow10",Rows.laid_internal_strconv_uint64pow10)::r) W):∀g cs,TabAt g cs->∃t z,W.heap[g]? = some (.cells cs t z):=by
 rintro g cs ⟨hg,rfl⟩;rw[MakeChecks.laidMetH_plain _ _ _ hp]at h;have h3:laidMet aal (("internal/strconv.uint64pow10",Lib.tabData .u64 Lib.pow10Tab)::r) W:=h.tail.tail;have hh : aal.globalNamed "internal/strconv.uint64pow10"=some 3:=by kernel_rfl
 have k:=Lib.tabIs_of_head (t:=170) (e:=145) (n:=20) hh (by kernel_rfl) (by kernel_rfl) (by kernel_rfl) (by kernel_rfl) (by kernel_rfl) h3;unfold Lib.TabIs World.var? at k;rw[hg,Option.bind_some]at k;split at k
 .rename_i cs t z hW;cases k;exact⟨t,z,hW⟩
 .cases k
end Go.Proofs.YteogppapbognjaaGreatDoor
