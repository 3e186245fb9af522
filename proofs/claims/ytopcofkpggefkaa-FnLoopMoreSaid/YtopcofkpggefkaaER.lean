/-
  FnLoopMore: the law holds for every input.
-/
import Derived.Test.YtopcofkpggefkaaEF

namespace Go.Proofs.Ytopcofkpggefkaa
open Go Go.ChangeShapes Go.WideShapes Go.ChangeAt Go.RowKit
set_option maxHeartbeats 800000 in
set_option maxRecDepth 100000 in
theorem loopMore_lifted (os : Os) (started : os.Started) (H : Type) (enc : TypeId × Value → H) :
    ReturnsInHanded {} Try.checked os 11 .any (Rows.fnLoopMoreSpec.pre6 enc Try.prog Try.f11 Rows.fnLoopMoreRow.domain false) (Rows.fnLoopMoreSpec.post enc Try.prog Try.f11 false true false false) :=
  law_lifted (C := Try.checked) own started (by kernel_rfl) Try.func11
    (ChangeSpec.witness6 (enc := enc) (C := Try.checked) false ⟨#[], #[.slice none 0 0], []⟩ 8 (by kernel_rfl) (by kernel_rfl) (by kernel_rfl) (by kernel_rfl))
    (t := 59) (e := 5) (r := 4) rfl rfl Try.underlying59 (by kernel_rfl) (by kernel_rfl) Try.underlying4 (fun _ => rfl) rfl
    k_laws_FnLoopMore FnLoopMore_true
set_option maxRecDepth 100000 in
theorem loopMore_closed : joinedFacts Try.prog 11 Try.f11 Rows.fnLoopMoreSpec Rows.fnLoopMoreRow = true :=
  joined_of (c := Rows.fnLoopMoreRow) (s := Rows.fnLoopMoreSpec) (fn := Try.f11) (f := 11) loopMore_f1 pf2 pf3 loopMore_f4 loopMore_f5 loopMore_f6 pf7 loopMore_f8 pf9 loopMore_f10 loopMore_f11 loopMore_f12 loopMore_f13 loopMore_f14 loopMore_f15 loopMore_f16 loopMore_f17 loopMore_f18 loopMore_f19 loopMore_f20 loopMore_f21 loopMore_f22 pf23 loopMore_f24 pf25 pf26 pf27 loopMore_f28 loopMore_f29 loopMore_f30 loopMore_f31 loopMore_f32
theorem loopMore_holds : Rows.FnLoopMoreSaid :=
  OpenClaim.holds_of_wide 11 Try.f11 rfl rfl rfl rfl rfl rfl rfl ⟨rfl, rfl, rfl, rfl, rfl⟩ rfl rfl rfl rfl rfl (by kernel_rfl) Try.func11 loopMore_closed
    (of_decide_eq_true (by kernel_rfl)) (by unfold Func.isWrapper; first | (rw [if_pos (by decide +kernel)]; kernel_rfl) | (rw [if_neg (by decide +kernel)]; exact ⟨rfl, rfl⟩))
    (fun os started H enc _ => loopMore_lifted os started H enc)
#print axioms loopMore_holds
end Go.Proofs.Ytopcofkpggefkaa
