/-
  FnSessNew: the law holds for every input.
-/
import Derived.Test.YtopcofkpggefkaaXF

namespace Go.Proofs.Ytopcofkpggefkaa
open Go Go.ChangeShapes Go.WideShapes Go.ChangeAt Go.RowKit


set_option maxHeartbeats 800000 in
set_option maxRecDepth 100000 in
theorem sessNew_lifted (os : Os) (started : os.Started) (H : Type) (enc : TypeId × Value → H) :
    ReturnsInHanded {} Try.checked os 18 .any (Rows.fnSessNewSpec.pre6 enc Try.prog Try.f18 Rows.fnSessNewRow.domain false) (Rows.fnSessNewSpec.post enc Try.prog Try.f18 false true false false) :=
  law_lifted (C := Try.checked) own started (by kernel_rfl) Try.func18
    (ChangeSpec.witness6 (enc := enc) (C := Try.checked) false ⟨#[], #[.slice none 0 0], []⟩ 8 (by kernel_rfl) (by kernel_rfl) (by kernel_rfl) (by kernel_rfl))
    (t := 59) (e := 5) (r := 4) rfl rfl Try.underlying59 (by kernel_rfl) (by kernel_rfl) Try.underlying4 (fun _ => rfl) rfl
    k_laws_FnSessNew FnSessNew_true

set_option maxRecDepth 100000 in
theorem sessNew_closed : joinedFacts Try.prog 18 Try.f18 Rows.fnSessNewSpec Rows.fnSessNewRow = true :=
  joined_of (c := Rows.fnSessNewRow) (s := Rows.fnSessNewSpec) (fn := Try.f18) (f := 18) sessNew_f1 pf2 pf3 sessNew_f4 sessNew_f5 sessNew_f6 pf7 sessNew_f8 pf9 sessNew_f10 sessNew_f11 sessNew_f12 sessNew_f13 sessNew_f14 sessNew_f15 sessNew_f16 sessNew_f17 sessNew_f18 sessNew_f19 sessNew_f20 sessNew_f21 sessNew_f22 pf23 sessNew_f24 pf25 pf26 pf27 sessNew_f28 sessNew_f29 sessNew_f30 sessNew_f31 sessNew_f32

theorem sessNew_holds : Rows.FnSessNewSaid :=
  OpenClaim.holds_of_wide 18 Try.f18 rfl rfl rfl rfl rfl rfl rfl ⟨rfl, rfl, rfl, rfl, rfl⟩ rfl rfl rfl rfl rfl (by kernel_rfl) Try.func18 sessNew_closed
    (of_decide_eq_true (by kernel_rfl)) (by unfold Func.isWrapper; first | (rw [if_pos (by decide +kernel)]; kernel_rfl) | (rw [if_neg (by decide +kernel)]; exact ⟨rfl, rfl⟩))
    (fun os started H enc _ => sessNew_lifted os started H enc)

#print axioms sessNew_holds
end Go.Proofs.Ytopcofkpggefkaa
