/-
  FnLoopNone: the law holds for every input.
-/
import Derived.Test.YtopcofkpggefkaaFF

namespace Go.Proofs.Ytopcofkpggefkaa
open Go Go.ChangeShapes Go.WideShapes Go.ChangeAt Go.RowKit
set_option maxHeartbeats 800000 in
set_option maxRecDepth 100000 in
theorem loopNone_lifted (os : Os) (started : os.Started) (H : Type) (enc : TypeId × Value → H) :
    ReturnsInHanded {} Try.checked os 12 .any (Rows.fnLoopNoneSpec.pre6 enc Try.prog Try.f12 Rows.fnLoopNoneRow.domain false) (Rows.fnLoopNoneSpec.post enc Try.prog Try.f12 false true false false) :=
  law_lifted (C := Try.checked) own started (by kernel_rfl) Try.func12
    (ChangeSpec.witness6 (enc := enc) (C := Try.checked) false ⟨#[], #[.slice none 0 0], []⟩ 8 (by kernel_rfl) (by kernel_rfl) (by kernel_rfl) (by kernel_rfl))
    (t := 59) (e := 5) (r := 4) rfl rfl Try.underlying59 (by kernel_rfl) (by kernel_rfl) Try.underlying4 (fun _ => rfl) rfl
    k_laws_FnLoopNone FnLoopNone_true
set_option maxRecDepth 100000 in
theorem loopNone_closed : joinedFacts Try.prog 12 Try.f12 Rows.fnLoopNoneSpec Rows.fnLoopNoneRow = true :=
  joined_of (c := Rows.fnLoopNoneRow) (s := Rows.fnLoopNoneSpec) (fn := Try.f12) (f := 12) loopNone_f1 pf2 pf3 loopNone_f4 loopNone_f5 loopNone_f6 pf7 loopNone_f8 pf9 loopNone_f10 loopNone_f11 loopNone_f12 loopNone_f13 loopNone_f14 loopNone_f15 loopNone_f16 loopNone_f17 loopNone_f18 loopNone_f19 loopNone_f20 loopNone_f21 loopNone_f22 pf23 loopNone_f24 pf25 pf26 pf27 loopNone_f28 loopNone_f29 loopNone_f30 loopNone_f31 loopNone_f32
theorem loopNone_holds : Rows.FnLoopNoneSaid :=
  OpenClaim.holds_of_wide 12 Try.f12 rfl rfl rfl rfl rfl rfl rfl ⟨rfl, rfl, rfl, rfl, rfl⟩ rfl rfl rfl rfl rfl (by kernel_rfl) Try.func12 loopNone_closed
    (of_decide_eq_true (by kernel_rfl)) (by unfold Func.isWrapper; first | (rw [if_pos (by decide +kernel)]; kernel_rfl) | (rw [if_neg (by decide +kernel)]; exact ⟨rfl, rfl⟩))
    (fun os started H enc _ => loopNone_lifted os started H enc)
#print axioms loopNone_holds
end Go.Proofs.Ytopcofkpggefkaa
