/-
  FnLoopFix: the law holds for every input.
-/
import Derived.Test.YtopcofkpggefkaaCR2F
import Derived.Test.YtopcofkpggefkaaC6
namespace Go.Proofs.Ytopcofkpggefkaa
open Go Go.ChangeShapes Go.WideShapes Go.ChangeAt Go.RowKit


set_option maxHeartbeats 800000 in
set_option maxRecDepth 100000 in
theorem loopFix_lifted (os : Os) (started : os.Started) (H : Type) (enc : TypeId × Value → H) :
    ReturnsInHanded {} Try.checked os 8 .any (Rows.fnLoopFixSpec.pre6 enc Try.prog Try.f8 Rows.fnLoopFixRow.domain false) (Rows.fnLoopFixSpec.post enc Try.prog Try.f8 false true false false) :=
  law_lifted (C := Try.checked) own started (by kernel_rfl) Try.func8
    (ChangeSpec.witness6 (enc := enc) (C := Try.checked) false ⟨#[], #[.slice none 0 0], []⟩ 8 (by kernel_rfl) (by kernel_rfl) (by kernel_rfl) (by kernel_rfl))
    (t := 59) (e := 5) (r := 4) rfl rfl Try.underlying59 (by kernel_rfl) (by kernel_rfl) Try.underlying4 (fun _ => rfl) rfl
    k_laws_FnLoopFix FnLoopFix_true

set_option maxRecDepth 100000 in
theorem loopFix_closed : joinedFacts Try.prog 8 Try.f8 Rows.fnLoopFixSpec Rows.fnLoopFixRow = true :=
  joined_of (c := Rows.fnLoopFixRow) (s := Rows.fnLoopFixSpec) (fn := Try.f8) (f := 8) loopFix_f1 pf2 pf3 loopFix_f4 loopFix_f5 loopFix_f6 pf7 loopFix_f8 pf9 loopFix_f10 loopFix_f11 loopFix_f12 loopFix_f13 loopFix_f14 loopFix_f15 loopFix_f16 loopFix_f17 loopFix_f18 loopFix_f19 loopFix_f20 loopFix_f21 loopFix_f22 pf23 loopFix_f24 pf25 pf26 pf27 loopFix_f28 loopFix_f29 loopFix_f30 loopFix_f31 loopFix_f32

theorem loopFix_holds : Rows.FnLoopFixSaid :=
  OpenClaim.holds_of_wide 8 Try.f8 rfl rfl rfl rfl rfl rfl rfl ⟨rfl, rfl, rfl, rfl, rfl⟩ rfl rfl rfl rfl rfl (by kernel_rfl) Try.func8 loopFix_closed
    (of_decide_eq_true (by kernel_rfl)) (by unfold Func.isWrapper; first | (rw [if_pos (by decide +kernel)]; kernel_rfl) | (rw [if_neg (by decide +kernel)]; exact ⟨rfl, rfl⟩))
    (fun os started H enc _ => loopFix_lifted os started H enc)

#print axioms loopFix_holds
end Go.Proofs.Ytopcofkpggefkaa
