/-
  FnPlanBatch: the law holds for every input.
-/
import Derived.Test.YthfkpijcajdnhaaGreatC11
import Derived.Test.YthfkpijcajdnhaaGreatC1F

namespace Go.Proofs.YthfkpijcajdnhaaGreat
open Go Go.ChangeShapes Go.WideShapes Go.ChangeAt Go.RowKit
set_option maxHeartbeats 800000 in
set_option maxRecDepth 100000 in
theorem Bag (os:Os) (started:os.Started) (H:Type) (enc:TypeId×Value→H) :
  ReturnsInHanded {} Tryz.checked os 3 .any (Rows.fnPlanBatchSpec.pre6 enc Tryz.prog Tryz.f3 Rows.fnPlanBatchRow.domain false) (Rows.fnPlanBatchSpec.post enc Tryz.prog Tryz.f3 false true false false) :=
 law_lifted (C:=Tryz.checked) own started (by kernel_rfl) Tryz.func3
  (ChangeSpec.witness6 (enc:=enc) (C:=Tryz.checked) false ⟨#[],#[.slice none 0 0],[]⟩ 8 (by kernel_rfl) (by kernel_rfl) (by kernel_rfl) (by kernel_rfl))
  (t:=22) (e:=5) (r:=4) rfl rfl Tryz.underlying22 (by kernel_rfl) (by kernel_rfl) Tryz.underlying4 (fun _=>rfl) rfl
  uag tag
set_option maxRecDepth 100000 in
theorem Cag:joinedFacts Tryz.prog 3 Tryz.f3 Rows.fnPlanBatchSpec Rows.fnPlanBatchRow=true :=
 wag (c:=Rows.fnPlanBatchRow) (s:=Rows.fnPlanBatchSpec) (fn:=Tryz.f3) (f:=3) Dag pf2 pf3 Eag Fag Gag pf7 Hag pf9 Iag Jag Kag Lag Mag Nag Oag Pag Qag Rag Sag Tag Uag xag Vag yag zag Aag Wag Xag Yag Zag aah
theorem v1_holds:Rows.FnPlanBatchSaid :=
 OpenClaim.holds_of_wide 3 Tryz.f3 rfl rfl rfl rfl rfl rfl rfl ⟨rfl,rfl,rfl,rfl,rfl⟩ rfl rfl rfl rfl rfl (by kernel_rfl) Tryz.func3 Cag
  (of_decide_eq_true (by kernel_rfl)) (by unfold Func.isWrapper;first | (rw[if_pos (by decide +kernel)];kernel_rfl) | (rw[if_neg (by decide +kernel)];exact ⟨rfl,rfl⟩))
  (fun os started H enc _=>Bag os started H enc)
#print axioms v1_holds
end Go.Proofs.YthfkpijcajdnhaaGreat
