/-
  FnSessTop: the law holds for every input.
-/
import Derived.Test.YtiiidenbemkihaaGreatC91
import Derived.Test.YtiiidenbemkihaaGreatC9F
namespace Go.Proofs.YtiiidenbemkihaaGreat
open Go
section
open Go Go.ChangeShapes Go.WideShapes Go.ChangeAt Go.RowKit
set_option maxHeartbeats 800000 in
set_option maxRecDepth 100000 in
theorem Cap(os:Os)(started:os.Started)(H:Type)(enc:TypeId×Value->H) :
  ReturnsInHanded {} Tryz.checked os 12 .any (Rows.fnSessTopSpec.pre6 enc Tryz.prog Tryz.f12 Rows.fnSessTopRow.domain false) (Rows.fnSessTopSpec.post enc Tryz.prog Tryz.f12 false true false false):=law_lifted (C:=Tryz.checked) own started (by kernel_rfl) Tryz.func12
  (ChangeSpec.witness6 (enc:=enc) (C:=Tryz.checked) false ⟨#[],#[.slice none 0 0],[]⟩ 8 (by kernel_rfl) (by kernel_rfl) (by kernel_rfl) (by kernel_rfl))
  (t:=22) (e:=5) (r:=4) rfl rfl Tryz.underlying22 (by kernel_rfl) (by kernel_rfl) Tryz.underlying4 (λ_=>rfl) rfl
  tap Bap
set_option maxRecDepth 100000 in
theorem Dap:joinedFacts Tryz.prog 12 Tryz.f12 Rows.fnSessTopSpec Rows.fnSessTopRow=true:=Gah (c:=Rows.fnSessTopRow) (s:=Rows.fnSessTopSpec) (fn:=Tryz.f12) (f:=12) Eap pf2 pf3 Fap Gap Hap pf7 Iap pf9 Jap Kap Lap Map Nap Oap Pap Qap Rap Sap Tap Uap Vap Hah Wap Iah Jah Kah Xap Yap Zap aaq baq
theorem y9_holds:Rows.FnSessTopSaid:=OpenClaim.holds_of_wide 12 Tryz.f12 rfl rfl rfl rfl rfl rfl rfl ⟨rfl,rfl,rfl,rfl,rfl⟩ rfl rfl rfl rfl rfl (by kernel_rfl) Tryz.func12 Dap
  (of_decide_eq_true (by kernel_rfl)) (by unfold Func.isWrapper;first|(rw[if_pos (by decide +kernel)];kernel_rfl)|(rw[if_neg (by decide +kernel)];exact⟨rfl,rfl⟩))
  (λos started H enc _=>Cap os started H enc)
#print axioms y9_holds
end
end Go.Proofs.YtiiidenbemkihaaGreat
