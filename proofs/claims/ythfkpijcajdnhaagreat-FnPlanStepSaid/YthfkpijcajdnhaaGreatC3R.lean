/-
  FnPlanStep: the law holds for every input.
-/
import Derived.Test.YthfkpijcajdnhaaGreatC31
import Derived.Test.YthfkpijcajdnhaaGreatC3F

namespace Go.Proofs.YthfkpijcajdnhaaGreat
open Go Go.ChangeShapes Go.WideShapes Go.ChangeAt Go.RowKit
set_option maxHeartbeats 800000 in
set_option maxRecDepth 100000 in
theorem vaw (os:Os) (started:os.Started) (H:Type) (enc:TypeId×Value→H) :
  ReturnsInHanded {} Tryz.checked os 5 .any (Rows.fnPlanStepSpec.pre6 enc Tryz.prog Tryz.f5 Rows.fnPlanStepRow.domain false) (Rows.fnPlanStepSpec.post enc Tryz.prog Tryz.f5 false true false false) :=
 law_lifted (C:=Tryz.checked) own started (by kernel_rfl) Tryz.func5
  (ChangeSpec.witness6 (enc:=enc) (C:=Tryz.checked) false ⟨#[],#[.slice none 0 0],[]⟩ 8 (by kernel_rfl) (by kernel_rfl) (by kernel_rfl) (by kernel_rfl))
  (t:=22) (e:=5) (r:=4) rfl rfl Tryz.underlying22 (by kernel_rfl) (by kernel_rfl) Tryz.underlying4 (fun _=>rfl) rfl
  uaw iaw
set_option maxRecDepth 100000 in
theorem waw:joinedFacts Tryz.prog 5 Tryz.f5 Rows.fnPlanStepSpec Rows.fnPlanStepRow=true :=
 wag (c:=Rows.fnPlanStepRow) (s:=Rows.fnPlanStepSpec) (fn:=Tryz.f5) (f:=5) xaw pf2 pf3 yaw zaw Aaw pf7 Baw pf9 Caw Daw Eaw Faw Gaw Haw Iaw Jaw Kaw Law Maw Naw Oaw xag Paw yag zag Aag Qaw Raw Saw Taw Uaw
theorem v3_holds:Rows.FnPlanStepSaid :=
 OpenClaim.holds_of_wide 5 Tryz.f5 rfl rfl rfl rfl rfl rfl rfl ⟨rfl,rfl,rfl,rfl,rfl⟩ rfl rfl rfl rfl rfl (by kernel_rfl) Tryz.func5 waw
  (of_decide_eq_true (by kernel_rfl)) (by unfold Func.isWrapper;first | (rw[if_pos (by decide +kernel)];kernel_rfl) | (rw[if_neg (by decide +kernel)];exact ⟨rfl,rfl⟩))
  (fun os started H enc _=>vaw os started H enc)
#print axioms v3_holds
end Go.Proofs.YthfkpijcajdnhaaGreat
