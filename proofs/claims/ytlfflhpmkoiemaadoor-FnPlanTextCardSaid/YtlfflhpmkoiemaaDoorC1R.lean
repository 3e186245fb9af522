/-
  FnPlanText: the law holds for every input (the tied card).
-/
import Derived.Test.YtlfflhpmkoiemaaDoorB1
import Derived.Test.YtlfflhpmkoiemaaDoorCards
import Derived.Test.YtlfflhpmkoiemaaDoorTie
import Derived.SevenTiedAt
import Derived.Test.YtlfflhpmkoiemaaDoorC1F
namespace Go.Proofs.YtlfflhpmkoiemaaDoor
open Go
section
open Go Go.ChangeShapes Go.WideShapes Go.ChangeAt Go.RowKit
set_option maxHeartbeats 800000 in
set_option maxRecDepth 100000 in
theorem gz(os:Os)(started:os.Started)(H:Type)(enc:TypeId×Value->H) :
  ReturnsInHanded {} Tryd.checked os 3 .any (λw args=>(Rows.fnPlanTextSpec.pre enc Tryd.prog Tryd.f3 Rows.fnPlanTextRow.domain false w args/\laidMetH Tryd.prog Rows.fnPlanTextRow.laid w)/\sizedMet enc Tryd.prog Tryd.f3 (OpenSpec.ofChange Rows.fnPlanTextSpec) false w args) (Rows.fnPlanTextSpec.post enc Tryd.prog Tryd.f3 false true false false):=nr (C:=Tryd.checked) own started (by kernel_rfl) Tryd.func3
  (ChangeSpec.witness_shaped (enc:=enc) (C:=Tryd.checked) (os:=os) (X:=λw _=>laidMetH Tryd.prog Rows.fnPlanTextRow.laid w) false (World.laidAll Tryd.prog os Rows.fnPlanTextRow.laid) #[.slice none 0 0] 8 (World.laidAll_os _ _ _)
    (World.shaped_of_ZipB (by kernel_rfl) (by kernel_rfl)) (by kernel_rfl) (by kernel_rfl) (by kernel_rfl)
    (by rw[MakeChecks.laidMetH_plain _ _ _ (by kernel_rfl)];exact laidMet_laidAll _ (by kernel_rfl) (by kernel_rfl)))
  (t:=22) (e:=5) (r:=4) rfl rfl Tryd.underlying22 (by kernel_rfl) (by kernel_rfl) Tryd.underlying4 (λ_=>rfl) rfl
  Qy dB
set_option maxRecDepth 100000 in
theorem iz:joinedFacts Tryd.prog 3 Tryd.f3 Rows.fnPlanTextSpec Rows.fnPlanTextRow=true:=mr (c:=Rows.fnPlanTextRow) (s:=Rows.fnPlanTextSpec) (fn:=Tryd.f3) (f:=3) lz pf2 pf3 mz nz oz pf7 qz pf9 rz tz uz wz xz yz Az Bz Cz Dz Ez Gz Hz pr Iz qr ur vr Jz Kz Lz Mz Nz
theorem jz:Rows.FnPlanTextSaid:=OpenClaim.holds_of_wide 3 Tryd.f3 rfl rfl rfl rfl rfl rfl rfl ⟨rfl,rfl,rfl,rfl,rfl⟩ rfl rfl rfl rfl rfl (by kernel_rfl) Tryd.func3 iz
  (of_decide_eq_true (by kernel_rfl)) (by unfold Func.isWrapper;first|(rw[if_pos (by decide +kernel)];kernel_rfl)|(rw[if_neg (by decide +kernel)];exact⟨rfl,rfl⟩))
  (λos started H enc _=>gz os started H enc)
theorem t1_holds:Rows.FnPlanTextCardSaid:=Claim7.holds_tied_plain_at .later [] [.data,.data,.data,.data,.pinned] true (true, "81f5c41685e089390125f371c84d382b5e8c2ec48e6bfe08efe80b1a9110671e") false jz (λ_ h=>by cases h) (by kernel_rfl) (λ_ h=>by cases h) fnPlanText_row_tie rfl ⟨rfl,rfl⟩ (by kernel_rfl) rfl
  (λf fn hf hfn=>by
    obtain rfl:f=3:=Option.some.inj ((show Tryd.prog.funcNamed "loop.example/tideline/laws.FnPlanText"=some 3 by kernel_rfl).symm.trans hf) |>.symm;obtain rfl:fn=Tryd.f3:=(Option.some.inj (Tryd.func3.symm.trans hfn)).symm
    exact⟨by kernel_rfl,λj t ht=>by
     rw[Tryd.params3]at ht;have hm:t∈[22]:=by simpa using Array.mem_of_getElem? ht
     have hh:([22].all λu=>!Tryd.prog.wantsStandIn u)=true:=by kernel_rfl
     exact(show Tryd.prog.wantsStandIn t=false by simpa using List.all_eq_true.1 hh t hm)⟩)
  (by kernel_rfl)
#print axioms t1_holds
end
end Go.Proofs.YtlfflhpmkoiemaaDoor
