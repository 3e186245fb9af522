/-
  FnSessOnNew: the law holds for every input.
-/
import Derived.Test.YtiiidenbemkihaaGreatC41
import Derived.Test.YtiiidenbemkihaaGreatC4F

namespace Go.Proofs.YtiiidenbemkihaaGreat
open Go Go.ChangeShapes Go.WideShapes Go.ChangeAt Go.RowKit
set_option maxHeartbeats 800000 in
set_option maxRecDepth 100000 in
theorem SaF(os:Os)(started:os.Started)(H:Type)(enc:TypeId×Value->H) :
  ReturnsInHanded {} Tryz.checked os 4 .any (Rows.fnSessOnNewSpec.pre6 enc Tryz.prog Tryz.f4 Rows.fnSessOnNewRow.domain false) (Rows.fnSessOnNewSpec.post enc Tryz.prog Tryz.f4 false true false false):=law_lifted (C:=Tryz.checked) own started (by kernel_rfl) Tryz.func4
  (ChangeSpec.witness6 (enc:=enc) (C:=Tryz.checked) false ⟨#[],#[.slice none 0 0],[]⟩ 8 (by kernel_rfl) (by kernel_rfl) (by kernel_rfl) (by kernel_rfl))
  (t:=22) (e:=5) (r:=4) rfl rfl Tryz.underlying22 (by kernel_rfl) (by kernel_rfl) Tryz.underlying4 (λ_=>rfl) rfl
  QaF RaF
set_option maxRecDepth 100000 in
theorem TaF:joinedFacts Tryz.prog 4 Tryz.f4 Rows.fnSessOnNewSpec Rows.fnSessOnNewRow=true:=ray (c:=Rows.fnSessOnNewRow) (s:=Rows.fnSessOnNewSpec) (fn:=Tryz.f4) (f:=4) UaF pf2 pf3 VaF WaF XaF pf7 YaF pf9 ZaF aaG baG caG daG eaG faG gaG haG iaG jaG kaG laG tay maG uay vay xay naG oaG paG qaG raG
theorem y4_holds:Rows.FnSessOnNewSaid:=OpenClaim.holds_of_wide 4 Tryz.f4 rfl rfl rfl rfl rfl rfl rfl ⟨rfl,rfl,rfl,rfl,rfl⟩ rfl rfl rfl rfl rfl (by kernel_rfl) Tryz.func4 TaF
  (of_decide_eq_true (by kernel_rfl)) (by unfold Func.isWrapper;first|(rw[if_pos (by decide +kernel)];kernel_rfl)|(rw[if_neg (by decide +kernel)];exact⟨rfl,rfl⟩))
  (λos started H enc _=>SaF os started H enc)
#print axioms y4_holds
end Go.Proofs.YtiiidenbemkihaaGreat
