/-
  FnLoopOut: the law holds for every input.
-/
import Derived.Test.YtopcofkpggefkaaIF

namespace Go.Proofs.Ytopcofkpggefkaa
open Go Go.ChangeShapes Go.WideShapes Go.ChangeAt Go.RowKit
set_option maxHeartbeats 800000 in
set_option maxRecDepth 100000 in
theorem loopOut_lifted (os : Os) (started : os.Started) (H : Type) (enc : TypeId × Value → H) :
    ReturnsInHanded {} Try.checked os 13 .any (Rows.fnLoopOutSpec.pre6 enc Try.prog Try.f13 Rows.fnLoopOutRow.domain false) (Rows.fnLoopOutSpec.post enc Try.prog Try.f13 false true false false) :=
  law_lifted (C := Try.checked) own started (by kernel_rfl) Try.func13
    (ChangeSpec.witness6 (enc := enc) (C := Try.checked) false ⟨#[], #[.slice none 0 0], []⟩ 8 (by kernel_rfl) (by kernel_rfl) (by kernel_rfl) (by kernel_rfl))
    (t := 59) (e := 5) (r := 4) rfl rfl Try.underlying59 (by kernel_rfl) (by kernel_rfl) Try.underlying4 (fun _ => rfl) rfl
    k_laws_FnLoopOut FnLoopOut_true
set_option maxRecDepth 100000 in
theorem loopOut_closed : joinedFacts Try.prog 13 Try.f13 Rows.fnLoopOutSpec Rows.fnLoopOutRow = true :=
  joined_of (c := Rows.fnLoopOutRow) (s := Rows.fnLoopOutSpec) (fn := Try.f13) (f := 13) loopOut_f1 pf2 pf3 loopOut_f4 loopOut_f5 loopOut_f6 pf7 loopOut_f8 pf9 loopOut_f10 loopOut_f11 loopOut_f12 loopOut_f13 loopOut_f14 loopOut_f15 loopOut_f16 loopOut_f17 loopOut_f18 loopOut_f19 loopOut_f20 loopOut_f21 loopOut_f22 pf23 loopOut_f24 pf25 pf26 pf27 loopOut_f28 loopOut_f29 loopOut_f30 loopOut_f31 loopOut_f32
theorem loopOut_holds : Rows.FnLoopOutSaid :=
  OpenClaim.holds_of_wide 13 Try.f13 rfl rfl rfl rfl rfl rfl rfl ⟨rfl, rfl, rfl, rfl, rfl⟩ rfl rfl rfl rfl rfl (by kernel_rfl) Try.func13 loopOut_closed
    (of_decide_eq_true (by kernel_rfl)) (by unfold Func.isWrapper; first | (rw [if_pos (by decide +kernel)]; kernel_rfl) | (rw [if_neg (by decide +kernel)]; exact ⟨rfl, rfl⟩))
    (fun os started H enc _ => loopOut_lifted os started H enc)
#print axioms loopOut_holds
end Go.Proofs.Ytopcofkpggefkaa
