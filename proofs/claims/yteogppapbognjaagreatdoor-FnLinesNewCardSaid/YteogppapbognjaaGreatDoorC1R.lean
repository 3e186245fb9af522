/-
  FnLinesNew: the law holds for every input (the tied card).
-/
import Derived.Test.YteogppapbognjaaGreatDoorC11
import Derived.Test.YteogppapbognjaaGreatDoorCards
import Derived.Test.YteogppapbognjaaGreatDoorTie
import Derived.SevenTiedAt
import Derived.Test.YteogppapbognjaaGreatDoorC1F
namespace Go.Proofs.YteogppapbognjaaGreatDoor
open Go
open Go.Proofs.Tryz renaming prog→aam
open _root_.Option.some renaming inj→aan
set_option maxRecDepth 100000
section
open Go Go.ChangeShapes Go.WideShapes Go.ChangeAt Go.RowKit
set_option maxHeartbeats 800000 in
theorem sak(os:Os)(started:os.Started)(H:Type)(enc:TypeId×Value->H) :
  ReturnsInHanded {} Tryz.checked os 3 .any (λw args=>(Rows.fnLinesNewSpec.pre enc aam Tryz.f3 Rows.fnLinesNewRow.domain false w args/\laidMetH aam Rows.fnLinesNewRow.laid w)/\sizedMet enc aam Tryz.f3 (OpenSpec.ofChange Rows.fnLinesNewSpec) false w args) (Rows.fnLinesNewSpec.post enc aam Tryz.f3 false true false false):=rak (C:=Tryz.checked) own started (by kernel_rfl) Tryz.func3
  (ChangeSpec.witness_shaped (enc:=enc) (C:=Tryz.checked) (os:=os) (X:=λw _=>laidMetH aam Rows.fnLinesNewRow.laid w) false (World.laidAll aam os Rows.fnLinesNewRow.laid) #[.slice none 0 0] 8 (World.laidAll_os _ _ _)
    (World.shaped_of_ZipB (by kernel_rfl) (by kernel_rfl)) (by kernel_rfl) (by kernel_rfl) (by kernel_rfl)
    (by rw[MakeChecks.laidMetH_plain _ _ _ (by kernel_rfl)];exact laidMet_laidAll _ (by kernel_rfl) (by kernel_rfl)))
  (t:=22) (e:=5) (r:=4) rfl rfl Tryz.underlying22 (by kernel_rfl) (by kernel_rfl) Tryz.underlying4 (λW h=>Saj (by kernel_rfl) W h) (λ_=>rfl) rfl
  qak bal
theorem tak:joinedFacts aam 3 Tryz.f3 Rows.fnLinesNewSpec Rows.fnLinesNewRow=true:=Raj (c:=Rows.fnLinesNewRow) (s:=Rows.fnLinesNewSpec) (fn:=Tryz.f3) (f:=3) vak pf2 pf3 wak xak yak pf7 zak pf9 Aak Bak Cak Dak Eak Fak Gak Hak Iak Jak Kak Lak Mak Taj Nak Uaj Vaj Waj Oak Pak Qak Rak Sak
theorem uak:Rows.FnLinesNewSaid:=OpenClaim.holds_of_wide 3 Tryz.f3 rfl rfl rfl rfl rfl rfl rfl ⟨rfl,rfl,rfl,rfl,rfl⟩ rfl rfl rfl rfl rfl (by kernel_rfl) Tryz.func3 tak
  (of_decide_eq_true (by kernel_rfl)) (by unfold Func.isWrapper;first|(rw[if_pos (by decide +kernel)];kernel_rfl)|(rw[if_neg (by decide +kernel)];exact⟨rfl,rfl⟩))
  (λos started H enc _=>sak os started H enc)
theorem u1_holds:Rows.FnLinesNewCardSaid:=Claim7.holds_tied_plain_at .later [] [.data,.data,.data,.data,.pinned] true (true, "048c30497718ef25b79f86b42d7be29d7c8387ad7a897365d42f606f01dcd1a1") false uak (λ_ h=>by cases h) (by kernel_rfl) (λ_ h=>by cases h) fnLinesNew_row_tie rfl ⟨rfl,rfl⟩ (by kernel_rfl) rfl
  (λf fn hf hfn=>by
    obtain rfl:f=3:=aan ((show aam.funcNamed "loop.example/tideline/laws.FnLinesNew"=some 3 by kernel_rfl).symm.trans hf) |>.symm;obtain rfl:fn=Tryz.f3:=(aan (Tryz.func3.symm.trans hfn)).symm
    exact⟨by kernel_rfl,λj t ht=>by
     rw[Tryz.params3]at ht;have hm:t∈[22]:=by simpa using Array.mem_of_getElem? ht
     have hh:([22].all λu=>!Tryz.prog.wantsStandIn u)=true:=by kernel_rfl
     exact(show aam.wantsStandIn t=false by simpa using List.all_eq_true.1 hh t hm)⟩)
  (by kernel_rfl)
#print axioms u1_holds
end
end Go.Proofs.YteogppapbognjaaGreatDoor
