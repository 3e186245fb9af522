/-
  FnPlanIns: the law holds for every input.
-/
import Derived.Test.YthfkpijcajdnhaaGreatC51
import Derived.Test.YthfkpijcajdnhaaGreatC5F

namespace Go.Proofs.YthfkpijcajdnhaaGreat
open Go Go.ChangeShapes Go.WideShapes Go.ChangeAt Go.RowKit
set_option maxHeartbeats 800000 in
set_option maxRecDepth 100000 in
theorem Pax (os:Os) (started:os.Started) (H:Type) (enc:TypeId×Value→H) :
  ReturnsInHanded {} Tryz.checked os 7 .any (Rows.fnPlanInsSpec.pre6 enc Tryz.prog Tryz.f7 Rows.fnPlanInsRow.domain false) (Rows.fnPlanInsSpec.post enc Tryz.prog Tryz.f7 false true false false) :=
 law_lifted (C:=Tryz.checked) own started (by kernel_rfl) Tryz.func7
  (ChangeSpec.witness6 (enc:=enc) (C:=Tryz.checked) false ⟨#[],#[.slice none 0 0],[]⟩ 8 (by kernel_rfl) (by kernel_rfl) (by kernel_rfl) (by kernel_rfl))
  (t:=22) (e:=5) (r:=4) rfl rfl Tryz.underlying22 (by kernel_rfl) (by kernel_rfl) Tryz.underlying4 (fun _=>rfl) rfl
  Oax Fax
set_option maxRecDepth 100000 in
theorem Qax:joinedFacts Tryz.prog 7 Tryz.f7 Rows.fnPlanInsSpec Rows.fnPlanInsRow=true :=
 wag (c:=Rows.fnPlanInsRow) (s:=Rows.fnPlanInsSpec) (fn:=Tryz.f7) (f:=7) Rax pf2 pf3 Sax Tax Uax pf7 Vax pf9 Wax Xax Yax Zax aay bay cay day eay fay gay hay iay xag jay yag zag Aag kay nay oay pay qay
theorem v5_holds:Rows.FnPlanInsSaid :=
 OpenClaim.holds_of_wide 7 Tryz.f7 rfl rfl rfl rfl rfl rfl rfl ⟨rfl,rfl,rfl,rfl,rfl⟩ rfl rfl rfl rfl rfl (by kernel_rfl) Tryz.func7 Qax
  (of_decide_eq_true (by kernel_rfl)) (by unfold Func.isWrapper;first | (rw[if_pos (by decide +kernel)];kernel_rfl) | (rw[if_neg (by decide +kernel)];exact ⟨rfl,rfl⟩))
  (fun os started H enc _=>Pax os started H enc)
#print axioms v5_holds
end Go.Proofs.YthfkpijcajdnhaaGreat
