/-
  FnSessTwo: the law holds for every input.
-/
import Derived.Test.YtiiidenbemkihaaGreatC71
import Derived.Test.YtiiidenbemkihaaGreatC7F

namespace Go.Proofs.YtiiidenbemkihaaGreat
open Go Go.ChangeShapes Go.WideShapes Go.ChangeAt Go.RowKit
set_option maxHeartbeats 800000 in
set_option maxRecDepth 100000 in
theorem NaI(os:Os)(started:os.Started)(H:Type)(enc:TypeId×Value->H) :
  ReturnsInHanded {} Tryz.checked os 7 .any (Rows.fnSessTwoSpec.pre6 enc Tryz.prog Tryz.f7 Rows.fnSessTwoRow.domain false) (Rows.fnSessTwoSpec.post enc Tryz.prog Tryz.f7 false true false false):=qay (C:=Tryz.checked) own started (by kernel_rfl) Tryz.func7
  (ChangeSpec.witness6 (enc:=enc) (C:=Tryz.checked) false ⟨#[],#[.slice none 0 0,.slice none 0 0],[]⟩ 8 (by kernel_rfl) (by kernel_rfl) (by kernel_rfl) (by kernel_rfl))
  (t:=22) (e:=5) (r:=4) rfl rfl Tryz.underlying22 (by kernel_rfl) (by kernel_rfl) Tryz.underlying4 (λ_ _=>rfl) rfl
  IaI MaI
set_option maxRecDepth 100000 in
theorem OaI:joinedFacts Tryz.prog 7 Tryz.f7 Rows.fnSessTwoSpec Rows.fnSessTwoRow=true:=ray (c:=Rows.fnSessTwoRow) (s:=Rows.fnSessTwoSpec) (fn:=Tryz.f7) (f:=7) PaI pf2 pf3 QaI RaI SaI pf7 TaI pf9 UaI VaI WaI XaI YaI ZaI aaJ baJ caJ daJ eaJ faJ gaJ tay haJ uay vay xay iaJ jaJ kaJ laJ maJ
theorem y7_holds:Rows.FnSessTwoSaid:=OpenClaim.holds_of_wide 7 Tryz.f7 rfl rfl rfl rfl rfl rfl rfl ⟨rfl,rfl,rfl,rfl,rfl⟩ rfl rfl rfl rfl rfl (by kernel_rfl) Tryz.func7 OaI
  (of_decide_eq_true (by kernel_rfl)) (by unfold Func.isWrapper;first|(rw[if_pos (by decide +kernel)];kernel_rfl)|(rw[if_neg (by decide +kernel)];exact⟨rfl,rfl⟩))
  (λos started H enc _=>NaI os started H enc)
#print axioms y7_holds
end Go.Proofs.YtiiidenbemkihaaGreat
