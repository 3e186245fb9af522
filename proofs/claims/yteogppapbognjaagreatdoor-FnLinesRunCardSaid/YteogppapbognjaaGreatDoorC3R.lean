/-
  FnLinesRun: the law holds for every input (the tied card).
-/
import Derived.Test.YteogppapbognjaaGreatDoorC31
import Derived.Test.YteogppapbognjaaGreatDoorCards
import Derived.Test.YteogppapbognjaaGreatDoorTie
import Derived.SevenTiedAt
import Derived.Test.YteogppapbognjaaGreatDoorC3F
namespace Go.Proofs.YteogppapbognjaaGreatDoor
open Go
open Go.Proofs.Tryz renaming prog→aal
open _root_.Option.some renaming inj→aan
set_option maxRecDepth 100000
section
open Go Go.ChangeShapes Go.WideShapes Go.ChangeAt Go.RowKit
set_option maxHeartbeats 800000 in
theorem nam(os:Os)(started:os.Started)(H:Type)(enc:TypeId×Value->H) :
  ReturnsInHanded {} Tryz.checked os 5 .any (λw args=>(Rows.fnLinesRunSpec.pre enc aal Tryz.f5 Rows.fnLinesRunRow.domain false w args/\laidMetH aal Rows.fnLinesRunRow.laid w)/\sizedMet enc aal Tryz.f5 (OpenSpec.ofChange Rows.fnLinesRunSpec) false w args) (Rows.fnLinesRunSpec.post enc aal Tryz.f5 false true false false):=mam (C:=Tryz.checked) own started (by kernel_rfl) Tryz.func5
  (ChangeSpec.witness_shaped (enc:=enc) (C:=Tryz.checked) (os:=os) (X:=λw _=>laidMetH aal Rows.fnLinesRunRow.laid w) false (World.laidAll aal os Rows.fnLinesRunRow.laid) #[.slice none 0 0,.slice none 0 0] 8 (World.laidAll_os _ _ _)
    (World.shaped_of_ZipB (by kernel_rfl) (by kernel_rfl)) (by kernel_rfl) (by kernel_rfl) (by kernel_rfl)
    (by rw[MakeChecks.laidMetH_plain _ _ _ (by kernel_rfl)];exact laidMet_laidAll _ (by kernel_rfl) (by kernel_rfl)))
  (t:=22) (e:=5) (r:=4) rfl rfl Tryz.underlying22 (by kernel_rfl) (by kernel_rfl) Tryz.underlying4 (λW h=>Saj (by kernel_rfl) W h) (λ_ _=>rfl) rfl
  lam Pam
theorem oam:joinedFacts aal 5 Tryz.f5 Rows.fnLinesRunSpec Rows.fnLinesRunRow=true:=Raj (c:=Rows.fnLinesRunRow) (s:=Rows.fnLinesRunSpec) (fn:=Tryz.f5) (f:=5) qam pf2 pf3 ram sam tam pf7 uam pf9 vam wam xam yam zam Aam Bam Cam Dam Eam Fam Gam Ham Taj Iam Uaj Vaj Waj Jam Kam Lam Mam Nam
theorem pam:Rows.FnLinesRunSaid:=OpenClaim.holds_of_wide 5 Tryz.f5 rfl rfl rfl rfl rfl rfl rfl ⟨rfl,rfl,rfl,rfl,rfl⟩ rfl rfl rfl rfl rfl (by kernel_rfl) Tryz.func5 oam
  (of_decide_eq_true (by kernel_rfl)) (by unfold Func.isWrapper;first|(rw[if_pos (by decide +kernel)];kernel_rfl)|(rw[if_neg (by decide +kernel)];exact⟨rfl,rfl⟩))
  (λos started H enc _=>nam os started H enc)
theorem u3_holds:Rows.FnLinesRunCardSaid:=Claim7.holds_tied_plain_at .later [] [.data,.data,.data,.data,.pinned] true (true, "048c30497718ef25b79f86b42d7be29d7c8387ad7a897365d42f606f01dcd1a1") false pam (λ_ h=>by cases h) (by kernel_rfl) (λ_ h=>by cases h) fnLinesRun_row_tie rfl ⟨rfl,rfl⟩ (by kernel_rfl) rfl
  (λf fn hf hfn=>by
    obtain rfl:f=5:=aan ((show aal.funcNamed "loop.example/tideline/laws.FnLinesRun"=some 5 by kernel_rfl).symm.trans hf) |>.symm;obtain rfl:fn=Tryz.f5:=(aan (Tryz.func5.symm.trans hfn)).symm
    exact⟨by kernel_rfl,λj t ht=>by
     rw[Tryz.params5]at ht;have hm:t∈[22,22]:=by simpa using Array.mem_of_getElem? ht
     have hh:([22,22].all λu=>!Tryz.prog.wantsStandIn u)=true:=by kernel_rfl
     exact(show aal.wantsStandIn t=false by simpa using List.all_eq_true.1 hh t hm)⟩)
  (by kernel_rfl)
#print axioms u3_holds
end
end Go.Proofs.YteogppapbognjaaGreatDoor
