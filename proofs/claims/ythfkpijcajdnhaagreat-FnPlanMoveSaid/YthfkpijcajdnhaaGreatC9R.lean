/-
  FnPlanMove: the law holds for every input.
-/
import Derived.Test.YthfkpijcajdnhaaGreatC91
import Derived.Test.YthfkpijcajdnhaaGreatC9F

namespace Go.Proofs.YthfkpijcajdnhaaGreat
open Go Go.ChangeShapes Go.WideShapes Go.ChangeAt Go.RowKit
set_option maxHeartbeats 800000 in
set_option maxRecDepth 100000 in
theorem FaB(os:Os)(started:os.Started)(H:Type)(enc:TypeId×Value->H) :
  ReturnsInHanded {} Tryz.checked os 11 .any (Rows.fnPlanMoveSpec.pre6 enc Tryz.prog Tryz.f11 Rows.fnPlanMoveRow.domain false) (Rows.fnPlanMoveSpec.post enc Tryz.prog Tryz.f11 false true false false):=gah (C:=Tryz.checked) own started (by kernel_rfl) Tryz.func11
  (ChangeSpec.witness6 (enc:=enc) (C:=Tryz.checked) false ⟨#[],#[.slice none 0 0,.slice none 0 0],[]⟩ 8 (by kernel_rfl) (by kernel_rfl) (by kernel_rfl) (by kernel_rfl))
  (t:=22) (e:=5) (r:=4) rfl rfl Tryz.underlying22 (by kernel_rfl) (by kernel_rfl) Tryz.underlying4 (λ_ _=>rfl) rfl
  EaB uaz
set_option maxRecDepth 100000 in
theorem GaB:joinedFacts Tryz.prog 11 Tryz.f11 Rows.fnPlanMoveSpec Rows.fnPlanMoveRow=true:=hah (c:=Rows.fnPlanMoveRow) (s:=Rows.fnPlanMoveSpec) (fn:=Tryz.f11) (f:=11) HaB pf2 pf3 IaB JaB KaB pf7 LaB pf9 MaB NaB OaB PaB QaB RaB SaB TaB UaB VaB WaB XaB YaB iah ZaB jah kah lah aaC baC caC daC eaC
theorem v9_holds:Rows.FnPlanMoveSaid:=OpenClaim.holds_of_wide 11 Tryz.f11 rfl rfl rfl rfl rfl rfl rfl ⟨rfl,rfl,rfl,rfl,rfl⟩ rfl rfl rfl rfl rfl (by kernel_rfl) Tryz.func11 GaB
  (of_decide_eq_true (by kernel_rfl)) (by unfold Func.isWrapper;first|(rw[if_pos (by decide +kernel)];kernel_rfl)|(rw[if_neg (by decide +kernel)];exact⟨rfl,rfl⟩))
  (λos started H enc _=>FaB os started H enc)
#print axioms v9_holds
end Go.Proofs.YthfkpijcajdnhaaGreat
