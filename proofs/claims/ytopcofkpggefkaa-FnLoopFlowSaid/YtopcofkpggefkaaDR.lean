/-
  FnLoopFlow: the law holds for every input.
-/
import Derived.Test.YtopcofkpggefkaaDF

namespace Go.Proofs.Ytopcofkpggefkaa
open Go Go.ChangeShapes Go.WideShapes Go.ChangeAt Go.RowKit
set_option maxHeartbeats 800000 in
set_option maxRecDepth 100000 in
theorem loopFlow_lifted (os : Os) (started : os.Started) (H : Type) (enc : TypeId × Value → H) :
    ReturnsInHanded {} Try.checked os 17 .any (Rows.fnLoopFlowSpec.pre6 enc Try.prog Try.f17 Rows.fnLoopFlowRow.domain false) (Rows.fnLoopFlowSpec.post enc Try.prog Try.f17 false true false false) :=
  law_lifted (C := Try.checked) own started (by kernel_rfl) Try.func17
    (ChangeSpec.witness6 (enc := enc) (C := Try.checked) false ⟨#[], #[.slice none 0 0], []⟩ 8 (by kernel_rfl) (by kernel_rfl) (by kernel_rfl) (by kernel_rfl))
    (t := 59) (e := 5) (r := 4) rfl rfl Try.underlying59 (by kernel_rfl) (by kernel_rfl) Try.underlying4 (fun _ => rfl) rfl
    k_laws_FnLoopFlow FnLoopFlow_true
set_option maxRecDepth 100000 in
theorem loopFlow_closed : joinedFacts Try.prog 17 Try.f17 Rows.fnLoopFlowSpec Rows.fnLoopFlowRow = true :=
  joined_of (c := Rows.fnLoopFlowRow) (s := Rows.fnLoopFlowSpec) (fn := Try.f17) (f := 17) loopFlow_f1 pf2 pf3 loopFlow_f4 loopFlow_f5 loopFlow_f6 pf7 loopFlow_f8 pf9 loopFlow_f10 loopFlow_f11 loopFlow_f12 loopFlow_f13 loopFlow_f14 loopFlow_f15 loopFlow_f16 loopFlow_f17 loopFlow_f18 loopFlow_f19 loopFlow_f20 loopFlow_f21 loopFlow_f22 pf23 loopFlow_f24 pf25 pf26 pf27 loopFlow_f28 loopFlow_f29 loopFlow_f30 loopFlow_f31 loopFlow_f32
theorem loopFlow_holds : Rows.FnLoopFlowSaid :=
  OpenClaim.holds_of_wide 17 Try.f17 rfl rfl rfl rfl rfl rfl rfl ⟨rfl, rfl, rfl, rfl, rfl⟩ rfl rfl rfl rfl rfl (by kernel_rfl) Try.func17 loopFlow_closed
    (of_decide_eq_true (by kernel_rfl)) (by unfold Func.isWrapper; first | (rw [if_pos (by decide +kernel)]; kernel_rfl) | (rw [if_neg (by decide +kernel)]; exact ⟨rfl, rfl⟩))
    (fun os started H enc _ => loopFlow_lifted os started H enc)
#print axioms loopFlow_holds
end Go.Proofs.Ytopcofkpggefkaa
