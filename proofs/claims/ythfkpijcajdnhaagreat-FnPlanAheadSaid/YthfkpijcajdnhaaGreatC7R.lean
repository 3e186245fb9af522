/-
  FnPlanAhead: the law holds for every input.
-/
import Derived.Test.YthfkpijcajdnhaaGreatC71
import Derived.Test.YthfkpijcajdnhaaGreatC7F

namespace Go.Proofs.YthfkpijcajdnhaaGreat
open Go Go.ChangeShapes Go.WideShapes Go.ChangeAt Go.RowKit
set_option maxHeartbeats 800000 in
set_option maxRecDepth 100000 in
theorem Kam(os:Os)(started:os.Started)(H:Type)(enc:TypeId×Value->H) :
  ReturnsInHanded {} Tryz.checked os 9 .any (Rows.fnPlanAheadSpec.pre6 enc Tryz.prog Tryz.f9 Rows.fnPlanAheadRow.domain false) (Rows.fnPlanAheadSpec.post enc Tryz.prog Tryz.f9 false true false false):=gah (C:=Tryz.checked) own started (by kernel_rfl) Tryz.func9
  (ChangeSpec.witness6 (enc:=enc) (C:=Tryz.checked) false ⟨#[],#[.slice none 0 0,.slice none 0 0],[]⟩ 8 (by kernel_rfl) (by kernel_rfl) (by kernel_rfl) (by kernel_rfl))
  (t:=22) (e:=5) (r:=4) rfl rfl Tryz.underlying22 (by kernel_rfl) (by kernel_rfl) Tryz.underlying4 (λ_ _=>rfl) rfl
  Jam Dal
set_option maxRecDepth 100000 in
theorem Lam:joinedFacts Tryz.prog 9 Tryz.f9 Rows.fnPlanAheadSpec Rows.fnPlanAheadRow=true:=hah (c:=Rows.fnPlanAheadRow) (s:=Rows.fnPlanAheadSpec) (fn:=Tryz.f9) (f:=9) Mam pf2 pf3 Nam Oam Pam pf7 Qam pf9 Ram Sam Tam Uam Vam Wam Xam Yam Zam aan ban dan ean iah fan jah kah lah gan han ian jan kan
theorem v7_holds:Rows.FnPlanAheadSaid:=OpenClaim.holds_of_wide 9 Tryz.f9 rfl rfl rfl rfl rfl rfl rfl ⟨rfl,rfl,rfl,rfl,rfl⟩ rfl rfl rfl rfl rfl (by kernel_rfl) Tryz.func9 Lam
  (of_decide_eq_true (by kernel_rfl)) (by unfold Func.isWrapper;first|(rw[if_pos (by decide +kernel)];kernel_rfl)|(rw[if_neg (by decide +kernel)];exact⟨rfl,rfl⟩))
  (λos started H enc _=>Kam os started H enc)
#print axioms v7_holds
end Go.Proofs.YthfkpijcajdnhaaGreat
