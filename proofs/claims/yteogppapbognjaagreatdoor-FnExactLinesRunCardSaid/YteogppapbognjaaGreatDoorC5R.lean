/-
  FnExactLinesRun: the law holds for every input (the tied card).
-/
import Derived.Test.YteogppapbognjaaGreatDoorC51
import Derived.Test.YteogppapbognjaaGreatDoorCards
import Derived.Test.YteogppapbognjaaGreatDoorTie
import Derived.SevenTiedAt
import Derived.Test.YteogppapbognjaaGreatDoorC5F
namespace Go.Proofs.YteogppapbognjaaGreatDoor
open Go
open Go.Proofs.Tryz renaming prog→aal
open _root_.Option.some renaming inj→aam
set_option maxRecDepth 100000
section
open Go Go.ChangeShapes Go.WideShapes Go.ChangeAt Go.RowKit
set_option maxHeartbeats 800000 in
theorem Van(os:Os)(started:os.Started)(H:Type)(enc:TypeId×Value->H) :
  ReturnsInHanded {} Tryz.checked os 7 .any (λw args=>(Rows.fnExactLinesRunSpec.pre enc aal Tryz.f7 Rows.fnExactLinesRunRow.domain false w args/\laidMetH aal Rows.fnExactLinesRunRow.laid w)/\sizedMet enc aal Tryz.f7 (OpenSpec.ofChange Rows.fnExactLinesRunSpec) false w args) (Rows.fnExactLinesRunSpec.post enc aal Tryz.f7 false true false false):=Uan (C:=Tryz.checked) own started (by kernel_rfl) Tryz.func7
  (ChangeSpec.witness_shaped (enc:=enc) (C:=Tryz.checked) (os:=os) (X:=λw _=>laidMetH aal Rows.fnExactLinesRunRow.laid w) false (World.laidAll aal os Rows.fnExactLinesRunRow.laid) #[.string .empty] 8 (World.laidAll_os _ _ _)
    (World.shaped_of_ZipB (by kernel_rfl) (by kernel_rfl)) (by kernel_rfl) (by kernel_rfl) (by kernel_rfl)
    (by rw[MakeChecks.laidMetH_plain _ _ _ (by kernel_rfl)];exact laidMet_laidAll _ (by kernel_rfl) (by kernel_rfl)))
  (t:=9) (r:=4) rfl rfl Tryz.underlying9 Tryz.underlying4 (λW h=>Saj (by kernel_rfl) W h) (λ_=>rfl) rfl
  San Tan
theorem Wan:joinedFacts aal 7 Tryz.f7 Rows.fnExactLinesRunSpec Rows.fnExactLinesRunRow=true:=Raj (c:=Rows.fnExactLinesRunRow) (s:=Rows.fnExactLinesRunSpec) (fn:=Tryz.f7) (f:=7) Yan pf2 pf3 Zan aao bao pf7 cao pf9 dao eao fao gao hao iao jao kao lao mao nao oao pao Taj qao Uaj Vaj Waj rao sao tao uao vao
theorem Xan:Rows.FnExactLinesRunSaid:=OpenClaim.holds_of_wide 7 Tryz.f7 rfl rfl rfl rfl rfl rfl rfl ⟨rfl,rfl,rfl,rfl,rfl⟩ rfl rfl rfl rfl rfl (by kernel_rfl) Tryz.func7 Wan
  (of_decide_eq_true (by kernel_rfl)) (by unfold Func.isWrapper;first|(rw[if_pos (by decide +kernel)];kernel_rfl)|(rw[if_neg (by decide +kernel)];exact⟨rfl,rfl⟩))
  (λos started H enc _=>Van os started H enc)
theorem u5_holds:Rows.FnExactLinesRunCardSaid:=Claim7.holds_tied_plain_at .later [] [.data,.data,.data,.data,.pinned] true (true, "048c30497718ef25b79f86b42d7be29d7c8387ad7a897365d42f606f01dcd1a1") false Xan (λ_ h=>by cases h) (by kernel_rfl) (λ_ h=>by cases h) fnExactLinesRun_row_tie rfl ⟨rfl,rfl⟩ (by kernel_rfl) rfl
  (λf fn hf hfn=>by
    obtain rfl:f=7:=aam ((show aal.funcNamed "loop.example/tideline/laws.FnExactLinesRun"=some 7 by kernel_rfl).symm.trans hf) |>.symm;obtain rfl:fn=Tryz.f7:=(aam (Tryz.func7.symm.trans hfn)).symm
    exact⟨by kernel_rfl,λj t ht=>by
     rw[Tryz.params7]at ht;have hm:t∈[9]:=by simpa using Array.mem_of_getElem? ht
     have hh:([9].all λu=>!Tryz.prog.wantsStandIn u)=true:=by kernel_rfl
     exact(show aal.wantsStandIn t=false by simpa using List.all_eq_true.1 hh t hm)⟩)
  (by kernel_rfl)
#print axioms u5_holds
end
end Go.Proofs.YteogppapbognjaaGreatDoor
