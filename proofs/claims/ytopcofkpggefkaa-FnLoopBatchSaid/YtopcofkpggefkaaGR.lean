/-
  FnLoopBatch: the law holds for every input.
-/
import Derived.Test.YtopcofkpggefkaaGF

namespace Go.Proofs.Ytopcofkpggefkaa
open Go Go.ChangeShapes Go.WideShapes Go.ChangeAt Go.RowKit
set_option maxHeartbeats 800000 in
set_option maxRecDepth 100000 in
theorem loopBatch_lifted (os : Os) (started : os.Started) (H : Type) (enc : TypeId × Value → H) :
    ReturnsInHanded {} Try.checked os 14 .any (Rows.fnLoopBatchSpec.pre6 enc Try.prog Try.f14 Rows.fnLoopBatchRow.domain false) (Rows.fnLoopBatchSpec.post enc Try.prog Try.f14 false true false false) :=
  law_lifted (C := Try.checked) own started (by kernel_rfl) Try.func14
    (ChangeSpec.witness6 (enc := enc) (C := Try.checked) false ⟨#[], #[.slice none 0 0], []⟩ 8 (by kernel_rfl) (by kernel_rfl) (by kernel_rfl) (by kernel_rfl))
    (t := 59) (e := 5) (r := 4) rfl rfl Try.underlying59 (by kernel_rfl) (by kernel_rfl) Try.underlying4 (fun _ => rfl) rfl
    k_laws_FnLoopBatch FnLoopBatch_true
set_option maxRecDepth 100000 in
theorem loopBatch_closed : joinedFacts Try.prog 14 Try.f14 Rows.fnLoopBatchSpec Rows.fnLoopBatchRow = true :=
  joined_of (c := Rows.fnLoopBatchRow) (s := Rows.fnLoopBatchSpec) (fn := Try.f14) (f := 14) loopBatch_f1 pf2 pf3 loopBatch_f4 loopBatch_f5 loopBatch_f6 pf7 loopBatch_f8 pf9 loopBatch_f10 loopBatch_f11 loopBatch_f12 loopBatch_f13 loopBatch_f14 loopBatch_f15 loopBatch_f16 loopBatch_f17 loopBatch_f18 loopBatch_f19 loopBatch_f20 loopBatch_f21 loopBatch_f22 pf23 loopBatch_f24 pf25 pf26 pf27 loopBatch_f28 loopBatch_f29 loopBatch_f30 loopBatch_f31 loopBatch_f32
theorem loopBatch_holds : Rows.FnLoopBatchSaid :=
  OpenClaim.holds_of_wide 14 Try.f14 rfl rfl rfl rfl rfl rfl rfl ⟨rfl, rfl, rfl, rfl, rfl⟩ rfl rfl rfl rfl rfl (by kernel_rfl) Try.func14 loopBatch_closed
    (of_decide_eq_true (by kernel_rfl)) (by unfold Func.isWrapper; first | (rw [if_pos (by decide +kernel)]; kernel_rfl) | (rw [if_neg (by decide +kernel)]; exact ⟨rfl, rfl⟩))
    (fun os started H enc _ => loopBatch_lifted os started H enc)
#print axioms loopBatch_holds
end Go.Proofs.Ytopcofkpggefkaa
