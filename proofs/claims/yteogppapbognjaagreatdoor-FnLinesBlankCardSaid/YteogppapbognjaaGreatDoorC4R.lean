/-
  FnLinesBlank: the law holds for every input (the tied card).
-/
import Derived.Test.YteogppapbognjaaGreatDoorC41
import Derived.Test.YteogppapbognjaaGreatDoorCards
import Derived.Test.YteogppapbognjaaGreatDoorTie
import Derived.SevenTiedAt
import Derived.Test.YteogppapbognjaaGreatDoorC4F
namespace Go.Proofs.YteogppapbognjaaGreatDoor
open Go
open Go.Proofs.Tryz renaming prog→aal
open _root_.Option.some renaming inj→aam
set_option maxRecDepth 100000
section
open Go Go.ChangeShapes Go.WideShapes Go.ChangeAt Go.RowKit
set_option maxHeartbeats 800000 in
theorem jan(os:Os)(started:os.Started)(H:Type)(enc:TypeId×Value->H) :
  ReturnsInHanded {} Tryz.checked os 6 .any (λw args=>(Rows.fnLinesBlankSpec.pre enc aal Tryz.f6 Rows.fnLinesBlankRow.domain false w args/\laidMetH aal Rows.fnLinesBlankRow.laid w)/\sizedMet enc aal Tryz.f6 (OpenSpec.ofChange Rows.fnLinesBlankSpec) false w args) (Rows.fnLinesBlankSpec.post enc aal Tryz.f6 false true false false):=rak (C:=Tryz.checked) own started (by kernel_rfl) Tryz.func6
  (ChangeSpec.witness_shaped (enc:=enc) (C:=Tryz.checked) (os:=os) (X:=λw _=>laidMetH aal Rows.fnLinesBlankRow.laid w) false (World.laidAll aal os Rows.fnLinesBlankRow.laid) #[.slice none 0 0] 8 (World.laidAll_os _ _ _)
    (World.shaped_of_ZipB (by kernel_rfl) (by kernel_rfl)) (by kernel_rfl) (by kernel_rfl) (by kernel_rfl)
    (by rw[MakeChecks.laidMetH_plain _ _ _ (by kernel_rfl)];exact laidMet_laidAll _ (by kernel_rfl) (by kernel_rfl)))
  (t:=22) (e:=5) (r:=4) rfl rfl Tryz.underlying22 (by kernel_rfl) (by kernel_rfl) Tryz.underlying4 (λW h=>Saj (by kernel_rfl) W h) (λ_=>rfl) rfl
  ian Lan
theorem kan:joinedFacts aal 6 Tryz.f6 Rows.fnLinesBlankSpec Rows.fnLinesBlankRow=true:=Raj (c:=Rows.fnLinesBlankRow) (s:=Rows.fnLinesBlankSpec) (fn:=Tryz.f6) (f:=6) man pf2 pf3 nan oan pan pf7 qan pf9 ran san tan uan van wan xan yan zan Aan Ban Can Dan Taj Ean Uaj Vaj Waj Fan Gan Han Ian Jan
theorem lan:Rows.FnLinesBlankSaid:=OpenClaim.holds_of_wide 6 Tryz.f6 rfl rfl rfl rfl rfl rfl rfl ⟨rfl,rfl,rfl,rfl,rfl⟩ rfl rfl rfl rfl rfl (by kernel_rfl) Tryz.func6 kan
  (of_decide_eq_true (by kernel_rfl)) (by unfold Func.isWrapper;first|(rw[if_pos (by decide +kernel)];kernel_rfl)|(rw[if_neg (by decide +kernel)];exact⟨rfl,rfl⟩))
  (λos started H enc _=>jan os started H enc)
theorem u4_holds:Rows.FnLinesBlankCardSaid:=Claim7.holds_tied_plain_at .later [] [.data,.data,.data,.data,.pinned] true (true, "048c30497718ef25b79f86b42d7be29d7c8387ad7a897365d42f606f01dcd1a1") false lan (λ_ h=>by cases h) (by kernel_rfl) (λ_ h=>by cases h) fnLinesBlank_row_tie rfl ⟨rfl,rfl⟩ (by kernel_rfl) rfl
  (λf fn hf hfn=>by
    obtain rfl:f=6:=aam ((show aal.funcNamed "loop.example/tideline/laws.FnLinesBlank"=some 6 by kernel_rfl).symm.trans hf) |>.symm;obtain rfl:fn=Tryz.f6:=(aam (Tryz.func6.symm.trans hfn)).symm
    exact⟨by kernel_rfl,λj t ht=>by
     rw[Tryz.params6]at ht;have hm:t∈[22]:=by simpa using Array.mem_of_getElem? ht
     have hh:([22].all λu=>!Tryz.prog.wantsStandIn u)=true:=by kernel_rfl
     exact(show aal.wantsStandIn t=false by simpa using List.all_eq_true.1 hh t hm)⟩)
  (by kernel_rfl)
#print axioms u4_holds
end
end Go.Proofs.YteogppapbognjaaGreatDoor
