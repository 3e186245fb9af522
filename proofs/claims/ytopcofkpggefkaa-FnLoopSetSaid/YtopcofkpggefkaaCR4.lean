/-
  FnLoopSet: the law holds for every input.
-/
import Derived.Test.YtopcofkpggefkaaCR4F
import Derived.Test.YtopcofkpggefkaaC6
namespace Go.Proofs.Ytopcofkpggefkaa
open Go Go.ChangeShapes Go.WideShapes Go.ChangeAt Go.RowKit


set_option maxHeartbeats 800000 in
set_option maxRecDepth 100000 in
theorem loopSet_lifted (os : Os) (started : os.Started) (H : Type) (enc : TypeId × Value → H) :
    ReturnsInHanded {} Try.checked os 10 .any (Rows.fnLoopSetSpec.pre6 enc Try.prog Try.f10 Rows.fnLoopSetRow.domain false) (Rows.fnLoopSetSpec.post enc Try.prog Try.f10 false true false false) :=
  law_lifted (C := Try.checked) own started (by kernel_rfl) Try.func10
    (ChangeSpec.witness6 (enc := enc) (C := Try.checked) false ⟨#[], #[.slice none 0 0], []⟩ 8 (by kernel_rfl) (by kernel_rfl) (by kernel_rfl) (by kernel_rfl))
    (t := 59) (e := 5) (r := 4) rfl rfl Try.underlying59 (by kernel_rfl) (by kernel_rfl) Try.underlying4 (fun _ => rfl) rfl
    k_laws_FnLoopSet FnLoopSet_true

set_option maxRecDepth 100000 in
theorem loopSet_closed : joinedFacts Try.prog 10 Try.f10 Rows.fnLoopSetSpec Rows.fnLoopSetRow = true :=
  joined_of (c := Rows.fnLoopSetRow) (s := Rows.fnLoopSetSpec) (fn := Try.f10) (f := 10) loopSet_f1 pf2 pf3 loopSet_f4 loopSet_f5 loopSet_f6 pf7 loopSet_f8 pf9 loopSet_f10 loopSet_f11 loopSet_f12 loopSet_f13 loopSet_f14 loopSet_f15 loopSet_f16 loopSet_f17 loopSet_f18 loopSet_f19 loopSet_f20 loopSet_f21 loopSet_f22 pf23 loopSet_f24 pf25 pf26 pf27 loopSet_f28 loopSet_f29 loopSet_f30 loopSet_f31 loopSet_f32

theorem loopSet_holds : Rows.FnLoopSetSaid :=
  OpenClaim.holds_of_wide 10 Try.f10 rfl rfl rfl rfl rfl rfl rfl ⟨rfl, rfl, rfl, rfl, rfl⟩ rfl rfl rfl rfl rfl (by kernel_rfl) Try.func10 loopSet_closed
    (of_decide_eq_true (by kernel_rfl)) (by unfold Func.isWrapper; first | (rw [if_pos (by decide +kernel)]; kernel_rfl) | (rw [if_neg (by decide +kernel)]; exact ⟨rfl, rfl⟩))
    (fun os started H enc _ => loopSet_lifted os started H enc)

#print axioms loopSet_holds
end Go.Proofs.Ytopcofkpggefkaa
