/-
  FnLinesPlan: the law holds for every input (the tied card).
-/
import Derived.Test.YtlfflhpmkoiemaaDoorB1
import Derived.Test.YtlfflhpmkoiemaaDoorCards
import Derived.Test.YtlfflhpmkoiemaaDoorTie
import Derived.SevenTiedAt
import Derived.Test.YtlfflhpmkoiemaaDoorC2F
namespace Go.Proofs.YtlfflhpmkoiemaaDoor
open Go
section
open Go Go.ChangeShapes Go.WideShapes Go.ChangeAt Go.RowKit
set_option maxHeartbeats 800000 in
set_option maxRecDepth 100000 in
theorem Oz(os:Os)(started:os.Started)(H:Type)(enc:TypeId×Value->H) :
  ReturnsInHanded {} Tryd.checked os 4 .any (λw args=>(Rows.fnLinesPlanSpec.pre enc Tryd.prog Tryd.f4 Rows.fnLinesPlanRow.domain false w args/\laidMetH Tryd.prog Rows.fnLinesPlanRow.laid w)/\sizedMet enc Tryd.prog Tryd.f4 (OpenSpec.ofChange Rows.fnLinesPlanSpec) false w args) (Rows.fnLinesPlanSpec.post enc Tryd.prog Tryd.f4 false true false false):=nr (C:=Tryd.checked) own started (by kernel_rfl) Tryd.func4
  (ChangeSpec.witness_shaped (enc:=enc) (C:=Tryd.checked) (os:=os) (X:=λw _=>laidMetH Tryd.prog Rows.fnLinesPlanRow.laid w) false (World.laidAll Tryd.prog os Rows.fnLinesPlanRow.laid) #[.slice none 0 0] 8 (World.laidAll_os _ _ _)
    (World.shaped_of_ZipB (by kernel_rfl) (by kernel_rfl)) (by kernel_rfl) (by kernel_rfl) (by kernel_rfl)
    (by rw[MakeChecks.laidMetH_plain _ _ _ (by kernel_rfl)];exact laidMet_laidAll _ (by kernel_rfl) (by kernel_rfl)))
  (t:=22) (e:=5) (r:=4) rfl rfl Tryd.underlying22 (by kernel_rfl) (by kernel_rfl) Tryd.underlying4 (λ_=>rfl) rfl
  Yy fB
set_option maxRecDepth 100000 in
theorem Pz:joinedFacts Tryd.prog 4 Tryd.f4 Rows.fnLinesPlanSpec Rows.fnLinesPlanRow=true:=mr (c:=Rows.fnLinesPlanRow) (s:=Rows.fnLinesPlanSpec) (fn:=Tryd.f4) (f:=4) Rz pf2 pf3 Sz Tz Uz pf7 Vz pf9 Wz Xz Yz Zz aA bA cA eA fA gA iA jA kA pr lA qr ur vr mA nA oA pA qA
theorem Qz:Rows.FnLinesPlanSaid:=OpenClaim.holds_of_wide 4 Tryd.f4 rfl rfl rfl rfl rfl rfl rfl ⟨rfl,rfl,rfl,rfl,rfl⟩ rfl rfl rfl rfl rfl (by kernel_rfl) Tryd.func4 Pz
  (of_decide_eq_true (by kernel_rfl)) (by unfold Func.isWrapper;first|(rw[if_pos (by decide +kernel)];kernel_rfl)|(rw[if_neg (by decide +kernel)];exact⟨rfl,rfl⟩))
  (λos started H enc _=>Oz os started H enc)
theorem t2_holds:Rows.FnLinesPlanCardSaid:=Claim7.holds_tied_plain_at .later [] [.data,.data,.data,.data,.pinned] true (true, "81f5c41685e089390125f371c84d382b5e8c2ec48e6bfe08efe80b1a9110671e") false Qz (λ_ h=>by cases h) (by kernel_rfl) (λ_ h=>by cases h) fnLinesPlan_row_tie rfl ⟨rfl,rfl⟩ (by kernel_rfl) rfl
  (λf fn hf hfn=>by
    obtain rfl:f=4:=Option.some.inj ((show Tryd.prog.funcNamed "loop.example/tideline/laws.FnLinesPlan"=some 4 by kernel_rfl).symm.trans hf) |>.symm;obtain rfl:fn=Tryd.f4:=(Option.some.inj (Tryd.func4.symm.trans hfn)).symm
    exact⟨by kernel_rfl,λj t ht=>by
     rw[Tryd.params4]at ht;have hm:t∈[22]:=by simpa using Array.mem_of_getElem? ht
     have hh:([22].all λu=>!Tryd.prog.wantsStandIn u)=true:=by kernel_rfl
     exact(show Tryd.prog.wantsStandIn t=false by simpa using List.all_eq_true.1 hh t hm)⟩)
  (by kernel_rfl)
#print axioms t2_holds
end
end Go.Proofs.YtlfflhpmkoiemaaDoor
