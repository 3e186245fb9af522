/-
  FnSessIn: the law holds for every input.
-/
import Derived.Test.YtiiidenbemkihaaGreatC11
import Derived.Test.YtiiidenbemkihaaGreatC1F

namespace Go.Proofs.YtiiidenbemkihaaGreat
open Go Go.ChangeShapes Go.WideShapes Go.ChangeAt Go.RowKit
set_option maxHeartbeats 800000 in
set_option maxRecDepth 100000 in
theorem haC(os:Os)(started:os.Started)(H:Type)(enc:TypeId×Value->H) :
  ReturnsInHanded {} Tryz.checked os 10 .any (Rows.fnSessInSpec.pre6 enc Tryz.prog Tryz.f10 Rows.fnSessInRow.domain false) (Rows.fnSessInSpec.post enc Tryz.prog Tryz.f10 false true false false):=law_lifted (C:=Tryz.checked) own started (by kernel_rfl) Tryz.func10
  (ChangeSpec.witness6 (enc:=enc) (C:=Tryz.checked) false ⟨#[],#[.slice none 0 0],[]⟩ 8 (by kernel_rfl) (by kernel_rfl) (by kernel_rfl) (by kernel_rfl))
  (t:=22) (e:=5) (r:=4) rfl rfl Tryz.underlying22 (by kernel_rfl) (by kernel_rfl) Tryz.underlying4 (λ_=>rfl) rfl
  SaB gaC
set_option maxRecDepth 100000 in
theorem iaC:joinedFacts Tryz.prog 10 Tryz.f10 Rows.fnSessInSpec Rows.fnSessInRow=true:=ray (c:=Rows.fnSessInRow) (s:=Rows.fnSessInSpec) (fn:=Tryz.f10) (f:=10) jaC pf2 pf3 kaC laC maC pf7 naC pf9 oaC paC qaC raC saC taC uaC vaC waC xaC yaC zaC AaC tay BaC uay vay xay CaC DaC EaC FaC GaC
theorem y1_holds:Rows.FnSessInSaid:=OpenClaim.holds_of_wide 10 Tryz.f10 rfl rfl rfl rfl rfl rfl rfl ⟨rfl,rfl,rfl,rfl,rfl⟩ rfl rfl rfl rfl rfl (by kernel_rfl) Tryz.func10 iaC
  (of_decide_eq_true (by kernel_rfl)) (by unfold Func.isWrapper;first|(rw[if_pos (by decide +kernel)];kernel_rfl)|(rw[if_neg (by decide +kernel)];exact⟨rfl,rfl⟩))
  (λos started H enc _=>haC os started H enc)
#print axioms y1_holds
end Go.Proofs.YtiiidenbemkihaaGreat
