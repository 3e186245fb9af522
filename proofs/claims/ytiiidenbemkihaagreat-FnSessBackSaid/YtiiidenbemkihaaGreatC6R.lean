/-
  FnSessBack: the law holds for every input.
-/
import Derived.Test.YtiiidenbemkihaaGreatC61
import Derived.Test.YtiiidenbemkihaaGreatC6F

namespace Go.Proofs.YtiiidenbemkihaaGreat
open Go Go.ChangeShapes Go.WideShapes Go.ChangeAt Go.RowKit
set_option maxHeartbeats 800000 in
set_option maxRecDepth 100000 in
theorem LaH(os:Os)(started:os.Started)(H:Type)(enc:TypeId×Value->H) :
  ReturnsInHanded {} Tryz.checked os 6 .any (Rows.fnSessBackSpec.pre6 enc Tryz.prog Tryz.f6 Rows.fnSessBackRow.domain false) (Rows.fnSessBackSpec.post enc Tryz.prog Tryz.f6 false true false false):=law_lifted (C:=Tryz.checked) own started (by kernel_rfl) Tryz.func6
  (ChangeSpec.witness6 (enc:=enc) (C:=Tryz.checked) false ⟨#[],#[.slice none 0 0],[]⟩ 8 (by kernel_rfl) (by kernel_rfl) (by kernel_rfl) (by kernel_rfl))
  (t:=22) (e:=5) (r:=4) rfl rfl Tryz.underlying22 (by kernel_rfl) (by kernel_rfl) Tryz.underlying4 (λ_=>rfl) rfl
  GaH KaH
set_option maxRecDepth 100000 in
theorem MaH:joinedFacts Tryz.prog 6 Tryz.f6 Rows.fnSessBackSpec Rows.fnSessBackRow=true:=ray (c:=Rows.fnSessBackRow) (s:=Rows.fnSessBackSpec) (fn:=Tryz.f6) (f:=6) NaH pf2 pf3 OaH PaH QaH pf7 RaH pf9 SaH TaH UaH VaH WaH XaH YaH ZaH aaI baI caI daI eaI tay faI uay vay xay gaI haI iaI jaI kaI
theorem y6_holds:Rows.FnSessBackSaid:=OpenClaim.holds_of_wide 6 Tryz.f6 rfl rfl rfl rfl rfl rfl rfl ⟨rfl,rfl,rfl,rfl,rfl⟩ rfl rfl rfl rfl rfl (by kernel_rfl) Tryz.func6 MaH
  (of_decide_eq_true (by kernel_rfl)) (by unfold Func.isWrapper;first|(rw[if_pos (by decide +kernel)];kernel_rfl)|(rw[if_neg (by decide +kernel)];exact⟨rfl,rfl⟩))
  (λos started H enc _=>LaH os started H enc)
#print axioms y6_holds
end Go.Proofs.YtiiidenbemkihaaGreat
