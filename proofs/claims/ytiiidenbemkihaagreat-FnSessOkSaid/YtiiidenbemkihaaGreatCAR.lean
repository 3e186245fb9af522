/-
  FnSessOk: the law holds for every input.
-/
import Derived.Test.YtiiidenbemkihaaGreatCA1
import Derived.Test.YtiiidenbemkihaaGreatCAF
namespace Go.Proofs.YtiiidenbemkihaaGreat
open Go
section
open Go Go.ChangeShapes Go.WideShapes Go.ChangeAt Go.RowKit
set_option maxHeartbeats 800000 in
set_option maxRecDepth 100000 in
theorem Gav(os:Os)(started:os.Started)(H:Type)(enc:TypeId×Value->H) :
  ReturnsInHanded {} Tryz.checked os 11 .any (Rows.fnSessOkSpec.pre6 enc Tryz.prog Tryz.f11 Rows.fnSessOkRow.domain false) (Rows.fnSessOkSpec.post enc Tryz.prog Tryz.f11 false true false false):=Fah (C:=Tryz.checked) own started (by kernel_rfl) Tryz.func11
  (ChangeSpec.witness6 (enc:=enc) (C:=Tryz.checked) false ⟨#[],#[.slice none 0 0,.slice none 0 0],[]⟩ 8 (by kernel_rfl) (by kernel_rfl) (by kernel_rfl) (by kernel_rfl))
  (t:=22) (e:=5) (r:=4) rfl rfl Tryz.underlying22 (by kernel_rfl) (by kernel_rfl) Tryz.underlying4 (λ_ _=>rfl) rfl
  iav Fav
set_option maxRecDepth 100000 in
theorem Hav:joinedFacts Tryz.prog 11 Tryz.f11 Rows.fnSessOkSpec Rows.fnSessOkRow=true:=Gah (c:=Rows.fnSessOkRow) (s:=Rows.fnSessOkSpec) (fn:=Tryz.f11) (f:=11) Iav pf2 pf3 Jav Kav Lav pf7 Mav pf9 Nav Oav Pav Qav Rav Sav Tav Uav Vav Wav Xav Yav Zav Hah aaw Iah Jah Kah baw caw daw eaw faw
theorem ya_holds:Rows.FnSessOkSaid:=OpenClaim.holds_of_wide 11 Tryz.f11 rfl rfl rfl rfl rfl rfl rfl ⟨rfl,rfl,rfl,rfl,rfl⟩ rfl rfl rfl rfl rfl (by kernel_rfl) Tryz.func11 Hav
  (of_decide_eq_true (by kernel_rfl)) (by unfold Func.isWrapper;first|(rw[if_pos (by decide +kernel)];kernel_rfl)|(rw[if_neg (by decide +kernel)];exact⟨rfl,rfl⟩))
  (λos started H enc _=>Gav os started H enc)
#print axioms ya_holds
end
end Go.Proofs.YtiiidenbemkihaaGreat
