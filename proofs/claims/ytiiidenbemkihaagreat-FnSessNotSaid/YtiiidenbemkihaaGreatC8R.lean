/-
  FnSessNot: the law holds for every input.
-/
import Derived.Test.YtiiidenbemkihaaGreatC81
import Derived.Test.YtiiidenbemkihaaGreatC8F

namespace Go.Proofs.YtiiidenbemkihaaGreat
open Go Go.ChangeShapes Go.WideShapes Go.ChangeAt Go.RowKit
set_option maxHeartbeats 800000 in
set_option maxRecDepth 100000 in
theorem SaL(os:Os)(started:os.Started)(H:Type)(enc:TypeId×Value->H) :
  ReturnsInHanded {} Tryz.checked os 3 .any (Rows.fnSessNotSpec.pre6 enc Tryz.prog Tryz.f3 Rows.fnSessNotRow.domain false) (Rows.fnSessNotSpec.post enc Tryz.prog Tryz.f3 false true false false):=law_lifted (C:=Tryz.checked) own started (by kernel_rfl) Tryz.func3
  (ChangeSpec.witness6 (enc:=enc) (C:=Tryz.checked) false ⟨#[],#[.slice none 0 0],[]⟩ 8 (by kernel_rfl) (by kernel_rfl) (by kernel_rfl) (by kernel_rfl))
  (t:=22) (e:=5) (r:=4) rfl rfl Tryz.underlying22 (by kernel_rfl) (by kernel_rfl) Tryz.underlying4 (λ_=>rfl) rfl
  JaL RaL
set_option maxRecDepth 100000 in
theorem TaL:joinedFacts Tryz.prog 3 Tryz.f3 Rows.fnSessNotSpec Rows.fnSessNotRow=true:=ray (c:=Rows.fnSessNotRow) (s:=Rows.fnSessNotSpec) (fn:=Tryz.f3) (f:=3) UaL pf2 pf3 VaL WaL XaL pf7 YaL pf9 ZaL aaM baM caM daM eaM faM gaM haM iaM jaM kaM laM tay maM uay vay xay naM oaM paM qaM raM
theorem y8_holds:Rows.FnSessNotSaid:=OpenClaim.holds_of_wide 3 Tryz.f3 rfl rfl rfl rfl rfl rfl rfl ⟨rfl,rfl,rfl,rfl,rfl⟩ rfl rfl rfl rfl rfl (by kernel_rfl) Tryz.func3 TaL
  (of_decide_eq_true (by kernel_rfl)) (by unfold Func.isWrapper;first|(rw[if_pos (by decide +kernel)];kernel_rfl)|(rw[if_neg (by decide +kernel)];exact⟨rfl,rfl⟩))
  (λos started H enc _=>SaL os started H enc)
#print axioms y8_holds
end Go.Proofs.YtiiidenbemkihaaGreat
