/-
  FnSessFinal: the law holds for every input.
-/
import Derived.Test.YtiiidenbemkihaaGreatCC1
import Derived.Test.YtiiidenbemkihaaGreatCCF
namespace Go.Proofs.YtiiidenbemkihaaGreat
open Go
section
open Go Go.ChangeShapes Go.WideShapes Go.ChangeAt Go.RowKit
set_option maxHeartbeats 800000 in
set_option maxRecDepth 100000 in
theorem eaA(os:Os)(started:os.Started)(H:Type)(enc:TypeId×Value->H) :
  ReturnsInHanded {} Tryz.checked os 14 .any (Rows.fnSessFinalSpec.pre6 enc Tryz.prog Tryz.f14 Rows.fnSessFinalRow.domain false) (Rows.fnSessFinalSpec.post enc Tryz.prog Tryz.f14 false true false false):=Fah (C:=Tryz.checked) own started (by kernel_rfl) Tryz.func14
  (ChangeSpec.witness6 (enc:=enc) (C:=Tryz.checked) false ⟨#[],#[.slice none 0 0,.slice none 0 0],[]⟩ 8 (by kernel_rfl) (by kernel_rfl) (by kernel_rfl) (by kernel_rfl))
  (t:=22) (e:=5) (r:=4) rfl rfl Tryz.underlying22 (by kernel_rfl) (by kernel_rfl) Tryz.underlying4 (λ_ _=>rfl) rfl
  caA daA
set_option maxRecDepth 100000 in
theorem faA:joinedFacts Tryz.prog 14 Tryz.f14 Rows.fnSessFinalSpec Rows.fnSessFinalRow=true:=Gah (c:=Rows.fnSessFinalRow) (s:=Rows.fnSessFinalSpec) (fn:=Tryz.f14) (f:=14) gaA pf2 pf3 haA iaA jaA pf7 kaA pf9 laA maA naA oaA paA qaA raA saA taA uaA vaA waA xaA Hah yaA Iah Jah Kah zaA AaA BaA CaA DaA
theorem yc_holds:Rows.FnSessFinalSaid:=OpenClaim.holds_of_wide 14 Tryz.f14 rfl rfl rfl rfl rfl rfl rfl ⟨rfl,rfl,rfl,rfl,rfl⟩ rfl rfl rfl rfl rfl (by kernel_rfl) Tryz.func14 faA
  (of_decide_eq_true (by kernel_rfl)) (by unfold Func.isWrapper;first|(rw[if_pos (by decide +kernel)];kernel_rfl)|(rw[if_neg (by decide +kernel)];exact⟨rfl,rfl⟩))
  (λos started H enc _=>eaA os started H enc)
#print axioms yc_holds
end
end Go.Proofs.YtiiidenbemkihaaGreat
