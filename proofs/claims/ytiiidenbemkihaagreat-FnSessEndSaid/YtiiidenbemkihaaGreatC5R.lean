/-
  FnSessEnd: the law holds for every input.
-/
import Derived.Test.YtiiidenbemkihaaGreatC51
import Derived.Test.YtiiidenbemkihaaGreatC5F

namespace Go.Proofs.YtiiidenbemkihaaGreat
open Go Go.ChangeShapes Go.WideShapes Go.ChangeAt Go.RowKit
set_option maxHeartbeats 800000 in
set_option maxRecDepth 100000 in
theorem UaG(os:Os)(started:os.Started)(H:Type)(enc:TypeId×Value->H) :
  ReturnsInHanded {} Tryz.checked os 5 .any (Rows.fnSessEndSpec.pre6 enc Tryz.prog Tryz.f5 Rows.fnSessEndRow.domain false) (Rows.fnSessEndSpec.post enc Tryz.prog Tryz.f5 false true false false):=law_lifted (C:=Tryz.checked) own started (by kernel_rfl) Tryz.func5
  (ChangeSpec.witness6 (enc:=enc) (C:=Tryz.checked) false ⟨#[],#[.slice none 0 0],[]⟩ 8 (by kernel_rfl) (by kernel_rfl) (by kernel_rfl) (by kernel_rfl))
  (t:=22) (e:=5) (r:=4) rfl rfl Tryz.underlying22 (by kernel_rfl) (by kernel_rfl) Tryz.underlying4 (λ_=>rfl) rfl
  PaG TaG
set_option maxRecDepth 100000 in
theorem VaG:joinedFacts Tryz.prog 5 Tryz.f5 Rows.fnSessEndSpec Rows.fnSessEndRow=true:=ray (c:=Rows.fnSessEndRow) (s:=Rows.fnSessEndSpec) (fn:=Tryz.f5) (f:=5) WaG pf2 pf3 XaG YaG ZaG pf7 aaH pf9 baH caH daH eaH faH gaH haH iaH jaH kaH laH maH naH tay oaH uay vay xay paH qaH raH saH taH
theorem y5_holds:Rows.FnSessEndSaid:=OpenClaim.holds_of_wide 5 Tryz.f5 rfl rfl rfl rfl rfl rfl rfl ⟨rfl,rfl,rfl,rfl,rfl⟩ rfl rfl rfl rfl rfl (by kernel_rfl) Tryz.func5 VaG
  (of_decide_eq_true (by kernel_rfl)) (by unfold Func.isWrapper;first|(rw[if_pos (by decide +kernel)];kernel_rfl)|(rw[if_neg (by decide +kernel)];exact⟨rfl,rfl⟩))
  (λos started H enc _=>UaG os started H enc)
#print axioms y5_holds
end Go.Proofs.YtiiidenbemkihaaGreat
