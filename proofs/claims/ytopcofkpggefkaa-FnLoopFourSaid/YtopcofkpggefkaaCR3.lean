/-
  FnLoopFour: the law holds for every input.
-/
import Derived.Test.YtopcofkpggefkaaCR3F
import Derived.Test.YtopcofkpggefkaaC6
namespace Go.Proofs.Ytopcofkpggefkaa
open Go Go.ChangeShapes Go.WideShapes Go.ChangeAt Go.RowKit


set_option maxHeartbeats 800000 in
set_option maxRecDepth 100000 in
theorem loopFour_lifted (os : Os) (started : os.Started) (H : Type) (enc : TypeId × Value → H) :
    ReturnsInHanded {} Try.checked os 9 .any (Rows.fnLoopFourSpec.pre6 enc Try.prog Try.f9 Rows.fnLoopFourRow.domain false) (Rows.fnLoopFourSpec.post enc Try.prog Try.f9 false true false false) :=
  law_lifted (C := Try.checked) own started (by kernel_rfl) Try.func9
    (ChangeSpec.witness6 (enc := enc) (C := Try.checked) false ⟨#[], #[.slice none 0 0], []⟩ 8 (by kernel_rfl) (by kernel_rfl) (by kernel_rfl) (by kernel_rfl))
    (t := 59) (e := 5) (r := 4) rfl rfl Try.underlying59 (by kernel_rfl) (by kernel_rfl) Try.underlying4 (fun _ => rfl) rfl
    k_laws_FnLoopFour FnLoopFour_true

set_option maxRecDepth 100000 in
theorem loopFour_closed : joinedFacts Try.prog 9 Try.f9 Rows.fnLoopFourSpec Rows.fnLoopFourRow = true :=
  joined_of (c := Rows.fnLoopFourRow) (s := Rows.fnLoopFourSpec) (fn := Try.f9) (f := 9) loopFour_f1 pf2 pf3 loopFour_f4 loopFour_f5 loopFour_f6 pf7 loopFour_f8 pf9 loopFour_f10 loopFour_f11 loopFour_f12 loopFour_f13 loopFour_f14 loopFour_f15 loopFour_f16 loopFour_f17 loopFour_f18 loopFour_f19 loopFour_f20 loopFour_f21 loopFour_f22 pf23 loopFour_f24 pf25 pf26 pf27 loopFour_f28 loopFour_f29 loopFour_f30 loopFour_f31 loopFour_f32

theorem loopFour_holds : Rows.FnLoopFourSaid :=
  OpenClaim.holds_of_wide 9 Try.f9 rfl rfl rfl rfl rfl rfl rfl ⟨rfl, rfl, rfl, rfl, rfl⟩ rfl rfl rfl rfl rfl (by kernel_rfl) Try.func9 loopFour_closed
    (of_decide_eq_true (by kernel_rfl)) (by unfold Func.isWrapper; first | (rw [if_pos (by decide +kernel)]; kernel_rfl) | (rw [if_neg (by decide +kernel)]; exact ⟨rfl, rfl⟩))
    (fun os started H enc _ => loopFour_lifted os started H enc)

#print axioms loopFour_holds
end Go.Proofs.Ytopcofkpggefkaa
