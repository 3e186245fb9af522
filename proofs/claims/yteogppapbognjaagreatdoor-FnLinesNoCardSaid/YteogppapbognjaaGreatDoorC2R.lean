/-
  FnLinesNo: the law holds for every input (the tied card).
-/
import Derived.Test.YteogppapbognjaaGreatDoorC21
import Derived.Test.YteogppapbognjaaGreatDoorCards
import Derived.Test.YteogppapbognjaaGreatDoorTie
import Derived.SevenTiedAt
import Derived.Test.YteogppapbognjaaGreatDoorC2F
namespace Go.Proofs.YteogppapbognjaaGreatDoor
open Go
open Go.Proofs.Tryz renaming prog→aal
open _root_.Option.some renaming inj→aam
set_option maxRecDepth 100000
section
open Go Go.ChangeShapes Go.WideShapes Go.ChangeAt Go.RowKit
set_option maxHeartbeats 800000 in
theorem tal(os:Os)(started:os.Started)(H:Type)(enc:TypeId×Value->H) :
  ReturnsInHanded {} Tryz.checked os 4 .any (λw args=>(Rows.fnLinesNoSpec.pre enc aal Tryz.f4 Rows.fnLinesNoRow.domain false w args/\laidMetH aal Rows.fnLinesNoRow.laid w)/\sizedMet enc aal Tryz.f4 (OpenSpec.ofChange Rows.fnLinesNoSpec) false w args) (Rows.fnLinesNoSpec.post enc aal Tryz.f4 false true false false):=rak (C:=Tryz.checked) own started (by kernel_rfl) Tryz.func4
  (ChangeSpec.witness_shaped (enc:=enc) (C:=Tryz.checked) (os:=os) (X:=λw _=>laidMetH aal Rows.fnLinesNoRow.laid w) false (World.laidAll aal os Rows.fnLinesNoRow.laid) #[.slice none 0 0] 8 (World.laidAll_os _ _ _)
    (World.shaped_of_ZipB (by kernel_rfl) (by kernel_rfl)) (by kernel_rfl) (by kernel_rfl) (by kernel_rfl)
    (by rw[MakeChecks.laidMetH_plain _ _ _ (by kernel_rfl)];exact laidMet_laidAll _ (by kernel_rfl) (by kernel_rfl)))
  (t:=22) (e:=5) (r:=4) rfl rfl Tryz.underlying22 (by kernel_rfl) (by kernel_rfl) Tryz.underlying4 (λW h=>Saj (by kernel_rfl) W h) (λ_=>rfl) rfl
  sal Zal
theorem ual:joinedFacts aal 4 Tryz.f4 Rows.fnLinesNoSpec Rows.fnLinesNoRow=true:=Raj (c:=Rows.fnLinesNoRow) (s:=Rows.fnLinesNoSpec) (fn:=Tryz.f4) (f:=4) xal pf2 pf3 yal zal Aal pf7 Bal pf9 Cal Dal Eal Fal Gal Hal Ial Jal Kal Lal Mal Nal Oal Taj Pal Uaj Vaj Waj Qal Ral Sal Tal Ual
theorem wal:Rows.FnLinesNoSaid:=OpenClaim.holds_of_wide 4 Tryz.f4 rfl rfl rfl rfl rfl rfl rfl ⟨rfl,rfl,rfl,rfl,rfl⟩ rfl rfl rfl rfl rfl (by kernel_rfl) Tryz.func4 ual
  (of_decide_eq_true (by kernel_rfl)) (by unfold Func.isWrapper;first|(rw[if_pos (by decide +kernel)];kernel_rfl)|(rw[if_neg (by decide +kernel)];exact⟨rfl,rfl⟩))
  (λos started H enc _=>tal os started H enc)
theorem u2_holds:Rows.FnLinesNoCardSaid:=Claim7.holds_tied_plain_at .later [] [.data,.data,.data,.data,.pinned] true (true, "048c30497718ef25b79f86b42d7be29d7c8387ad7a897365d42f606f01dcd1a1") false wal (λ_ h=>by cases h) (by kernel_rfl) (λ_ h=>by cases h) fnLinesNo_row_tie rfl ⟨rfl,rfl⟩ (by kernel_rfl) rfl
  (λf fn hf hfn=>by
    obtain rfl:f=4:=aam ((show aal.funcNamed "loop.example/tideline/laws.FnLinesNo"=some 4 by kernel_rfl).symm.trans hf) |>.symm;obtain rfl:fn=Tryz.f4:=(aam (Tryz.func4.symm.trans hfn)).symm
    exact⟨by kernel_rfl,λj t ht=>by
     rw[Tryz.params4]at ht;have hm:t∈[22]:=by simpa using Array.mem_of_getElem? ht
     have hh:([22].all λu=>!Tryz.prog.wantsStandIn u)=true:=by kernel_rfl
     exact(show aal.wantsStandIn t=false by simpa using List.all_eq_true.1 hh t hm)⟩)
  (by kernel_rfl)
#print axioms u2_holds
end
end Go.Proofs.YteogppapbognjaaGreatDoor
