/-
  FnSessLate: the law holds for every input.
-/
import Derived.Test.YtiiidenbemkihaaGreatC21
import Derived.Test.YtiiidenbemkihaaGreatC2F

namespace Go.Proofs.YtiiidenbemkihaaGreat
open Go Go.ChangeShapes Go.WideShapes Go.ChangeAt Go.RowKit
set_option maxHeartbeats 800000 in
set_option maxRecDepth 100000 in
theorem xaC(os:Os)(started:os.Started)(H:Type)(enc:TypeId×Value->H) :
  ReturnsInHanded {} Tryz.checked os 9 .any (Rows.fnSessLateSpec.pre6 enc Tryz.prog Tryz.f9 Rows.fnSessLateRow.domain false) (Rows.fnSessLateSpec.post enc Tryz.prog Tryz.f9 false true false false):=law_lifted (C:=Tryz.checked) own started (by kernel_rfl) Tryz.func9
  (ChangeSpec.witness6 (enc:=enc) (C:=Tryz.checked) false ⟨#[],#[.slice none 0 0],[]⟩ 8 (by kernel_rfl) (by kernel_rfl) (by kernel_rfl) (by kernel_rfl))
  (t:=22) (e:=5) (r:=4) rfl rfl Tryz.underlying22 (by kernel_rfl) (by kernel_rfl) Tryz.underlying4 (λ_=>rfl) rfl
  iaC waC
set_option maxRecDepth 100000 in
theorem yaC:joinedFacts Tryz.prog 9 Tryz.f9 Rows.fnSessLateSpec Rows.fnSessLateRow=true:=ray (c:=Rows.fnSessLateRow) (s:=Rows.fnSessLateSpec) (fn:=Tryz.f9) (f:=9) zaC pf2 pf3 AaC BaC CaC pf7 DaC pf9 EaC FaC GaC HaC IaC JaC KaC LaC MaC NaC OaC PaC QaC tay RaC uay vay xay SaC TaC UaC VaC WaC
theorem y2_holds:Rows.FnSessLateSaid:=OpenClaim.holds_of_wide 9 Tryz.f9 rfl rfl rfl rfl rfl rfl rfl ⟨rfl,rfl,rfl,rfl,rfl⟩ rfl rfl rfl rfl rfl (by kernel_rfl) Tryz.func9 yaC
  (of_decide_eq_true (by kernel_rfl)) (by unfold Func.isWrapper;first|(rw[if_pos (by decide +kernel)];kernel_rfl)|(rw[if_neg (by decide +kernel)];exact⟨rfl,rfl⟩))
  (λos started H enc _=>xaC os started H enc)
#print axioms y2_holds
end Go.Proofs.YtiiidenbemkihaaGreat
