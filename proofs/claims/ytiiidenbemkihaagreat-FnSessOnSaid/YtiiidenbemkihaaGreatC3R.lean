/-
  FnSessOn: the law holds for every input.
-/
import Derived.Test.YtiiidenbemkihaaGreatC31
import Derived.Test.YtiiidenbemkihaaGreatC3F

namespace Go.Proofs.YtiiidenbemkihaaGreat
open Go Go.ChangeShapes Go.WideShapes Go.ChangeAt Go.RowKit
set_option maxHeartbeats 800000 in
set_option maxRecDepth 100000 in
theorem SaE(os:Os)(started:os.Started)(H:Type)(enc:TypeId×Value->H) :
  ReturnsInHanded {} Tryz.checked os 8 .any (Rows.fnSessOnSpec.pre6 enc Tryz.prog Tryz.f8 Rows.fnSessOnRow.domain false) (Rows.fnSessOnSpec.post enc Tryz.prog Tryz.f8 false true false false):=law_lifted (C:=Tryz.checked) own started (by kernel_rfl) Tryz.func8
  (ChangeSpec.witness6 (enc:=enc) (C:=Tryz.checked) false ⟨#[],#[.slice none 0 0],[]⟩ 8 (by kernel_rfl) (by kernel_rfl) (by kernel_rfl) (by kernel_rfl))
  (t:=22) (e:=5) (r:=4) rfl rfl Tryz.underlying22 (by kernel_rfl) (by kernel_rfl) Tryz.underlying4 (λ_=>rfl) rfl
  JaE RaE
set_option maxRecDepth 100000 in
theorem TaE:joinedFacts Tryz.prog 8 Tryz.f8 Rows.fnSessOnSpec Rows.fnSessOnRow=true:=ray (c:=Rows.fnSessOnRow) (s:=Rows.fnSessOnSpec) (fn:=Tryz.f8) (f:=8) UaE pf2 pf3 VaE WaE XaE pf7 YaE pf9 ZaE aaF baF caF daF eaF faF gaF haF iaF jaF kaF laF tay maF uay vay xay naF oaF paF qaF raF
theorem y3_holds:Rows.FnSessOnSaid:=OpenClaim.holds_of_wide 8 Tryz.f8 rfl rfl rfl rfl rfl rfl rfl ⟨rfl,rfl,rfl,rfl,rfl⟩ rfl rfl rfl rfl rfl (by kernel_rfl) Tryz.func8 TaE
  (of_decide_eq_true (by kernel_rfl)) (by unfold Func.isWrapper;first|(rw[if_pos (by decide +kernel)];kernel_rfl)|(rw[if_neg (by decide +kernel)];exact⟨rfl,rfl⟩))
  (λos started H enc _=>SaE os started H enc)
#print axioms y3_holds
end Go.Proofs.YtiiidenbemkihaaGreat
