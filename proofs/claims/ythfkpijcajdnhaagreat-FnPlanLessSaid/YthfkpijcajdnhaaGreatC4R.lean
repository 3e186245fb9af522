/-
  FnPlanLess: the law holds for every input.
-/
import Derived.Test.YthfkpijcajdnhaaGreatC41
import Derived.Test.YthfkpijcajdnhaaGreatC4F

namespace Go.Proofs.YthfkpijcajdnhaaGreat
open Go Go.ChangeShapes Go.WideShapes Go.ChangeAt Go.RowKit
set_option maxHeartbeats 800000 in
set_option maxRecDepth 100000 in
theorem Vau (os:Os) (started:os.Started) (H:Type) (enc:TypeId×Value→H) :
  ReturnsInHanded {} Tryz.checked os 6 .any (Rows.fnPlanLessSpec.pre6 enc Tryz.prog Tryz.f6 Rows.fnPlanLessRow.domain false) (Rows.fnPlanLessSpec.post enc Tryz.prog Tryz.f6 false true false false) :=
 law_lifted (C:=Tryz.checked) own started (by kernel_rfl) Tryz.func6
  (ChangeSpec.witness6 (enc:=enc) (C:=Tryz.checked) false ⟨#[],#[.slice none 0 0],[]⟩ 8 (by kernel_rfl) (by kernel_rfl) (by kernel_rfl) (by kernel_rfl))
  (t:=22) (e:=5) (r:=4) rfl rfl Tryz.underlying22 (by kernel_rfl) (by kernel_rfl) Tryz.underlying4 (fun _=>rfl) rfl
  Uau Mau
set_option maxRecDepth 100000 in
theorem Wau:joinedFacts Tryz.prog 6 Tryz.f6 Rows.fnPlanLessSpec Rows.fnPlanLessRow=true :=
 wag (c:=Rows.fnPlanLessRow) (s:=Rows.fnPlanLessSpec) (fn:=Tryz.f6) (f:=6) Xau pf2 pf3 Yau Zau aav pf7 bav pf9 cav dav eav fav gav iav jav kav lav mav oav pav qav xag rav yag zag Aag sav tav uav vav wav
theorem v4_holds:Rows.FnPlanLessSaid :=
 OpenClaim.holds_of_wide 6 Tryz.f6 rfl rfl rfl rfl rfl rfl rfl ⟨rfl,rfl,rfl,rfl,rfl⟩ rfl rfl rfl rfl rfl (by kernel_rfl) Tryz.func6 Wau
  (of_decide_eq_true (by kernel_rfl)) (by unfold Func.isWrapper;first | (rw[if_pos (by decide +kernel)];kernel_rfl) | (rw[if_neg (by decide +kernel)];exact ⟨rfl,rfl⟩))
  (fun os started H enc _=>Vau os started H enc)
#print axioms v4_holds
end Go.Proofs.YthfkpijcajdnhaaGreat
