/-
  FnLoopRounds: the law holds for every input.
-/
import Derived.Test.YtopcofkpggefkaaHF

namespace Go.Proofs.Ytopcofkpggefkaa
open Go Go.ChangeShapes Go.WideShapes Go.ChangeAt Go.RowKit
set_option maxHeartbeats 800000 in
set_option maxRecDepth 100000 in
theorem loopRounds_lifted (os : Os) (started : os.Started) (H : Type) (enc : TypeId × Value → H) :
    ReturnsInHanded {} Try.checked os 15 .any (Rows.fnLoopRoundsSpec.pre6 enc Try.prog Try.f15 Rows.fnLoopRoundsRow.domain false) (Rows.fnLoopRoundsSpec.post enc Try.prog Try.f15 false true false false) :=
  law_lifted (C := Try.checked) own started (by kernel_rfl) Try.func15
    (ChangeSpec.witness6 (enc := enc) (C := Try.checked) false ⟨#[], #[.slice none 0 0], []⟩ 8 (by kernel_rfl) (by kernel_rfl) (by kernel_rfl) (by kernel_rfl))
    (t := 59) (e := 5) (r := 4) rfl rfl Try.underlying59 (by kernel_rfl) (by kernel_rfl) Try.underlying4 (fun _ => rfl) rfl
    k_laws_FnLoopRounds FnLoopRounds_true
set_option maxRecDepth 100000 in
theorem loopRounds_closed : joinedFacts Try.prog 15 Try.f15 Rows.fnLoopRoundsSpec Rows.fnLoopRoundsRow = true :=
  joined_of (c := Rows.fnLoopRoundsRow) (s := Rows.fnLoopRoundsSpec) (fn := Try.f15) (f := 15) loopRounds_f1 pf2 pf3 loopRounds_f4 loopRounds_f5 loopRounds_f6 pf7 loopRounds_f8 pf9 loopRounds_f10 loopRounds_f11 loopRounds_f12 loopRounds_f13 loopRounds_f14 loopRounds_f15 loopRounds_f16 loopRounds_f17 loopRounds_f18 loopRounds_f19 loopRounds_f20 loopRounds_f21 loopRounds_f22 pf23 loopRounds_f24 pf25 pf26 pf27 loopRounds_f28 loopRounds_f29 loopRounds_f30 loopRounds_f31 loopRounds_f32
theorem loopRounds_holds : Rows.FnLoopRoundsSaid :=
  OpenClaim.holds_of_wide 15 Try.f15 rfl rfl rfl rfl rfl rfl rfl ⟨rfl, rfl, rfl, rfl, rfl⟩ rfl rfl rfl rfl rfl (by kernel_rfl) Try.func15 loopRounds_closed
    (of_decide_eq_true (by kernel_rfl)) (by unfold Func.isWrapper; first | (rw [if_pos (by decide +kernel)]; kernel_rfl) | (rw [if_neg (by decide +kernel)]; exact ⟨rfl, rfl⟩))
    (fun os started H enc _ => loopRounds_lifted os started H enc)
#print axioms loopRounds_holds
end Go.Proofs.Ytopcofkpggefkaa
