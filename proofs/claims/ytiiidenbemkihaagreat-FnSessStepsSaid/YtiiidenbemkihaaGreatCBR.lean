/-
  FnSessSteps: the law holds for every input.
-/
import Derived.Test.YtiiidenbemkihaaGreatCB1
import Derived.Test.YtiiidenbemkihaaGreatCBF
namespace Go.Proofs.YtiiidenbemkihaaGreat
open Go
section
open Go Go.ChangeShapes Go.WideShapes Go.ChangeAt Go.RowKit
set_option maxHeartbeats 800000 in
set_option maxRecDepth 100000 in
theorem faz(os:Os)(started:os.Started)(H:Type)(enc:TypeId×Value->H) :
  ReturnsInHanded {} Tryz.checked os 13 .any (Rows.fnSessStepsSpec.pre6 enc Tryz.prog Tryz.f13 Rows.fnSessStepsRow.domain false) (Rows.fnSessStepsSpec.post enc Tryz.prog Tryz.f13 false true false false):=Fah (C:=Tryz.checked) own started (by kernel_rfl) Tryz.func13
  (ChangeSpec.witness6 (enc:=enc) (C:=Tryz.checked) false ⟨#[],#[.slice none 0 0,.slice none 0 0],[]⟩ 8 (by kernel_rfl) (by kernel_rfl) (by kernel_rfl) (by kernel_rfl))
  (t:=22) (e:=5) (r:=4) rfl rfl Tryz.underlying22 (by kernel_rfl) (by kernel_rfl) Tryz.underlying4 (λ_ _=>rfl) rfl
  Pay eaz
set_option maxRecDepth 100000 in
theorem gaz:joinedFacts Tryz.prog 13 Tryz.f13 Rows.fnSessStepsSpec Rows.fnSessStepsRow=true:=Gah (c:=Rows.fnSessStepsRow) (s:=Rows.fnSessStepsSpec) (fn:=Tryz.f13) (f:=13) haz pf2 pf3 iaz jaz kaz pf7 laz pf9 maz naz oaz paz qaz raz saz taz uaz vaz waz xaz yaz Hah zaz Iah Jah Kah Aaz Baz Caz Daz Eaz
theorem yb_holds:Rows.FnSessStepsSaid:=OpenClaim.holds_of_wide 13 Tryz.f13 rfl rfl rfl rfl rfl rfl rfl ⟨rfl,rfl,rfl,rfl,rfl⟩ rfl rfl rfl rfl rfl (by kernel_rfl) Tryz.func13 gaz
  (of_decide_eq_true (by kernel_rfl)) (by unfold Func.isWrapper;first|(rw[if_pos (by decide +kernel)];kernel_rfl)|(rw[if_neg (by decide +kernel)];exact⟨rfl,rfl⟩))
  (λos started H enc _=>faz os started H enc)
#print axioms yb_holds
end
end Go.Proofs.YtiiidenbemkihaaGreat
