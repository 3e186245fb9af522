/-
  FnPlanBoth: the law holds for every input.
-/
import Derived.Test.YthfkpijcajdnhaaGreatC21
import Derived.Test.YthfkpijcajdnhaaGreatC2F

namespace Go.Proofs.YthfkpijcajdnhaaGreat
open Go Go.ChangeShapes Go.WideShapes Go.ChangeAt Go.RowKit
set_option maxHeartbeats 800000 in
set_option maxRecDepth 100000 in
theorem Vat (os:Os) (started:os.Started) (H:Type) (enc:TypeId×Value→H) :
  ReturnsInHanded {} Tryz.checked os 4 .any (Rows.fnPlanBothSpec.pre6 enc Tryz.prog Tryz.f4 Rows.fnPlanBothRow.domain false) (Rows.fnPlanBothSpec.post enc Tryz.prog Tryz.f4 false true false false) :=
 law_lifted (C:=Tryz.checked) own started (by kernel_rfl) Tryz.func4
  (ChangeSpec.witness6 (enc:=enc) (C:=Tryz.checked) false ⟨#[],#[.slice none 0 0],[]⟩ 8 (by kernel_rfl) (by kernel_rfl) (by kernel_rfl) (by kernel_rfl))
  (t:=22) (e:=5) (r:=4) rfl rfl Tryz.underlying22 (by kernel_rfl) (by kernel_rfl) Tryz.underlying4 (fun _=>rfl) rfl
  Uat Rat
set_option maxRecDepth 100000 in
theorem Wat:joinedFacts Tryz.prog 4 Tryz.f4 Rows.fnPlanBothSpec Rows.fnPlanBothRow=true :=
 wag (c:=Rows.fnPlanBothRow) (s:=Rows.fnPlanBothSpec) (fn:=Tryz.f4) (f:=4) Xat pf2 pf3 Yat Zat aau pf7 bau pf9 cau dau eau fau gau hau iau jau kau lau mau nau oau xag pau yag zag Aag qau rau sau tau uau
theorem v2_holds:Rows.FnPlanBothSaid :=
 OpenClaim.holds_of_wide 4 Tryz.f4 rfl rfl rfl rfl rfl rfl rfl ⟨rfl,rfl,rfl,rfl,rfl⟩ rfl rfl rfl rfl rfl (by kernel_rfl) Tryz.func4 Wat
  (of_decide_eq_true (by kernel_rfl)) (by unfold Func.isWrapper;first | (rw[if_pos (by decide +kernel)];kernel_rfl) | (rw[if_neg (by decide +kernel)];exact ⟨rfl,rfl⟩))
  (fun os started H enc _=>Vat os started H enc)
#print axioms v2_holds
end Go.Proofs.YthfkpijcajdnhaaGreat
