/-
  FnPlanSame: the law holds for every input.
-/
import Derived.Test.YthfkpijcajdnhaaGreatC61
import Derived.Test.YthfkpijcajdnhaaGreatC6F

namespace Go.Proofs.YthfkpijcajdnhaaGreat
open Go Go.ChangeShapes Go.WideShapes Go.ChangeAt Go.RowKit
set_option maxHeartbeats 800000 in
set_option maxRecDepth 100000 in
theorem Faz (os:Os) (started:os.Started) (H:Type) (enc:TypeId×Value→H) :
  ReturnsInHanded {} Tryz.checked os 8 .any (Rows.fnPlanSameSpec.pre6 enc Tryz.prog Tryz.f8 Rows.fnPlanSameRow.domain false) (Rows.fnPlanSameSpec.post enc Tryz.prog Tryz.f8 false true false false) :=
 law_lifted (C:=Tryz.checked) own started (by kernel_rfl) Tryz.func8
  (ChangeSpec.witness6 (enc:=enc) (C:=Tryz.checked) false ⟨#[],#[.slice none 0 0],[]⟩ 8 (by kernel_rfl) (by kernel_rfl) (by kernel_rfl) (by kernel_rfl))
  (t:=22) (e:=5) (r:=4) rfl rfl Tryz.underlying22 (by kernel_rfl) (by kernel_rfl) Tryz.underlying4 (fun _=>rfl) rfl
  Eaz raz
set_option maxRecDepth 100000 in
theorem Gaz:joinedFacts Tryz.prog 8 Tryz.f8 Rows.fnPlanSameSpec Rows.fnPlanSameRow=true :=
 wag (c:=Rows.fnPlanSameRow) (s:=Rows.fnPlanSameSpec) (fn:=Tryz.f8) (f:=8) Haz pf2 pf3 Iaz Jaz Kaz pf7 Laz pf9 Maz Naz Oaz Paz Qaz Raz Saz Taz Uaz Vaz Waz Xaz Yaz xag Zaz yag zag Aag aaA baA caA daA eaA
theorem v6_holds:Rows.FnPlanSameSaid :=
 OpenClaim.holds_of_wide 8 Tryz.f8 rfl rfl rfl rfl rfl rfl rfl ⟨rfl,rfl,rfl,rfl,rfl⟩ rfl rfl rfl rfl rfl (by kernel_rfl) Tryz.func8 Gaz
  (of_decide_eq_true (by kernel_rfl)) (by unfold Func.isWrapper;first | (rw[if_pos (by decide +kernel)];kernel_rfl) | (rw[if_neg (by decide +kernel)];exact ⟨rfl,rfl⟩))
  (fun os started H enc _=>Faz os started H enc)
#print axioms v6_holds
end Go.Proofs.YthfkpijcajdnhaaGreat
