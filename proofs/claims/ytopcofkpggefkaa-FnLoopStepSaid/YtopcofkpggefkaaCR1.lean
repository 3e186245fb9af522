/-
  FnLoopStep: the law holds for every input.
-/
import Derived.Test.YtopcofkpggefkaaCR1F
import Derived.Test.YtopcofkpggefkaaC6
namespace Go.Proofs.Ytopcofkpggefkaa
open Go Go.ChangeShapes Go.WideShapes Go.ChangeAt Go.RowKit


set_option maxHeartbeats 800000 in
set_option maxRecDepth 100000 in
theorem loopStep_lifted (os : Os) (started : os.Started) (H : Type) (enc : TypeId × Value → H) :
    ReturnsInHanded {} Try.checked os 7 .any (Rows.fnLoopStepSpec.pre6 enc Try.prog Try.f7 Rows.fnLoopStepRow.domain false) (Rows.fnLoopStepSpec.post enc Try.prog Try.f7 false true false false) :=
  law_lifted (C := Try.checked) own started (by kernel_rfl) Try.func7
    (ChangeSpec.witness6 (enc := enc) (C := Try.checked) false ⟨#[], #[.slice none 0 0], []⟩ 8 (by kernel_rfl) (by kernel_rfl) (by kernel_rfl) (by kernel_rfl))
    (t := 59) (e := 5) (r := 4) rfl rfl Try.underlying59 (by kernel_rfl) (by kernel_rfl) Try.underlying4 (fun _ => rfl) rfl
    k_laws_FnLoopStep FnLoopStep_true

set_option maxRecDepth 100000 in
theorem loopStep_closed : joinedFacts Try.prog 7 Try.f7 Rows.fnLoopStepSpec Rows.fnLoopStepRow = true :=
  joined_of (c := Rows.fnLoopStepRow) (s := Rows.fnLoopStepSpec) (fn := Try.f7) (f := 7) loopStep_f1 pf2 pf3 loopStep_f4 loopStep_f5 loopStep_f6 pf7 loopStep_f8 pf9 loopStep_f10 loopStep_f11 loopStep_f12 loopStep_f13 loopStep_f14 loopStep_f15 loopStep_f16 loopStep_f17 loopStep_f18 loopStep_f19 loopStep_f20 loopStep_f21 loopStep_f22 pf23 loopStep_f24 pf25 pf26 pf27 loopStep_f28 loopStep_f29 loopStep_f30 loopStep_f31 loopStep_f32

theorem loopStep_holds : Rows.FnLoopStepSaid :=
  OpenClaim.holds_of_wide 7 Try.f7 rfl rfl rfl rfl rfl rfl rfl ⟨rfl, rfl, rfl, rfl, rfl⟩ rfl rfl rfl rfl rfl (by kernel_rfl) Try.func7 loopStep_closed
    (of_decide_eq_true (by kernel_rfl)) (by unfold Func.isWrapper; first | (rw [if_pos (by decide +kernel)]; kernel_rfl) | (rw [if_neg (by decide +kernel)]; exact ⟨rfl, rfl⟩))
    (fun os started H enc _ => loopStep_lifted os started H enc)

#print axioms loopStep_holds
end Go.Proofs.Ytopcofkpggefkaa
