/-
  FnPlanTop: the law holds for every input.
-/
import Derived.Test.YthfkpijcajdnhaaGreatC81
import Derived.Test.YthfkpijcajdnhaaGreatC8F

namespace Go.Proofs.YthfkpijcajdnhaaGreat
open Go Go.ChangeShapes Go.WideShapes Go.ChangeAt Go.RowKit
set_option maxHeartbeats 800000 in
set_option maxRecDepth 100000 in
theorem kat(os:Os)(started:os.Started)(H:Type)(enc:TypeId×Value->H) :
  ReturnsInHanded {} Tryz.checked os 10 .any (Rows.fnPlanTopSpec.pre6 enc Tryz.prog Tryz.f10 Rows.fnPlanTopRow.domain false) (Rows.fnPlanTopSpec.post enc Tryz.prog Tryz.f10 false true false false):=law_lifted (C:=Tryz.checked) own started (by kernel_rfl) Tryz.func10
  (ChangeSpec.witness6 (enc:=enc) (C:=Tryz.checked) false ⟨#[],#[.slice none 0 0],[]⟩ 8 (by kernel_rfl) (by kernel_rfl) (by kernel_rfl) (by kernel_rfl))
  (t:=22) (e:=5) (r:=4) rfl rfl Tryz.underlying22 (by kernel_rfl) (by kernel_rfl) Tryz.underlying4 (λ_=>rfl) rfl
  jat Lar
set_option maxRecDepth 100000 in
theorem lat:joinedFacts Tryz.prog 10 Tryz.f10 Rows.fnPlanTopSpec Rows.fnPlanTopRow=true:=hah (c:=Rows.fnPlanTopRow) (s:=Rows.fnPlanTopSpec) (fn:=Tryz.f10) (f:=10) mat pf2 pf3 nat oat qat pf7 rat pf9 sat tat uat vat wat xat yat zat Aat Bat Cat Dat Eat iah Fat jah kah lah Gat Hat Iat Jat Kat
theorem v8_holds:Rows.FnPlanTopSaid:=OpenClaim.holds_of_wide 10 Tryz.f10 rfl rfl rfl rfl rfl rfl rfl ⟨rfl,rfl,rfl,rfl,rfl⟩ rfl rfl rfl rfl rfl (by kernel_rfl) Tryz.func10 lat
  (of_decide_eq_true (by kernel_rfl)) (by unfold Func.isWrapper;first|(rw[if_pos (by decide +kernel)];kernel_rfl)|(rw[if_neg (by decide +kernel)];exact⟨rfl,rfl⟩))
  (λos started H enc _=>kat os started H enc)
#print axioms v8_holds
end Go.Proofs.YthfkpijcajdnhaaGreat
