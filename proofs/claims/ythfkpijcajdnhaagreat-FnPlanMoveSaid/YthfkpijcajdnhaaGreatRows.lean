/-
  No cell of these rows narrows 'for every input' (looked for: loops, veiled, ifaces, maps, wideKeys, modest, calm, conditions, laid).
  DERIVED. THE GIVEN ROWS OF THIS SEAT. 9 by the template 'for every input the law returns true; each argument reads behind the call as it read before'; 0 by the template 'total and deterministic' (their statements: YthfkpijcajdnhaaGreatTotals.lean).
  GIVEN WITH THE SEED: the statements are not yours to turn. If you find one false, say at which input.
  Laid BY PROGRAM, IN A SANDBOX (cutbox-rows.mjs): the forced cells as the released guide's own fill.sh prints them over the translation 7240ad37d392febb… (all of the seat's roots in one cut). By AI agents, Wed Nov 11 2026. No macro, syntax, notation, axiom, sorry.
-/
import Derived.Test.YthfkpijcajdnhaaGreatChecked
import GoSem.Claim
import GoSem.ClaimJoined
import GoSem.ClaimMapViews
import Derived.JoinedTies
import Derived.KernelRfl
namespace Go.Proofs.YthfkpijcajdnhaaGreat
/- THE CELL 'sum', in the pinned program and in every row, IS THE sha256 OF THE DUMP (.gsa) THAT YthfkpijcajdnhaaGreatProg.lean LOADS. Nothing in Lean hashes anything: it is a label: what it is worth is what the hold of that sum in a sandbox is worth. -/
noncomputable def Tryz.pinned : Pinned := { name := "ythfkpijcajdnhaagreat", sum := "7240ad37d392febb8089d256825d5864d6b98784c4e929cac97999f7bd94f2b5", checked := Tryz.checked }
namespace Rows
def none {H : Type} : Left H := { results := [], args := [] }

/-- 'laws.FnPlanBatch': WHATEVER THE INPUT: true; the input reads as it did. -/
def fnPlanBatchSpec : ChangeSpec := { name := "fnPlanBatch", fn := fun _ => fun
  | [d] => { results := [.lit (.bool true)], args := [d] }
  | _ => none }
def fnPlanBatchRow : OpenClaim := { program := "ythfkpijcajdnhaagreat", sum := "7240ad37d392febb8089d256825d5864d6b98784c4e929cac97999f7bd94f2b5", func := "loop.example/tideline/laws.FnPlanBatch", spec := "fnPlanBatch", inPlace := ["internal/reflectlite.ValueOf", "internal/reflectlite.Swapper", "(internal/reflectlite.Value).Len"], unfollowed := true, recurses := true, plainKeys := false, apart := false }
def FnPlanBatchSaid : Prop := fnPlanBatchRow.holds Tryz.pinned (OpenSpec.ofChange fnPlanBatchSpec)

/-- ITS FALSE NEIGHBOUR: 'it returns false'. Refute it at one input. -/
def fnPlanBatchWrong : ChangeSpec := { name := "fnPlanBatch", fn := fun _ => fun
  | [d] => { results := [.lit (.bool false)], args := [d] }
  | _ => none }
def FnPlanBatchWrongFalsely : Prop := fnPlanBatchRow.holds Tryz.pinned (OpenSpec.ofChange fnPlanBatchWrong)

/-- 'laws.FnPlanBoth': WHATEVER THE INPUT: true; the input reads as it did. -/
def fnPlanBothSpec : ChangeSpec := { name := "fnPlanBoth", fn := fun _ => fun
  | [d] => { results := [.lit (.bool true)], args := [d] }
  | _ => none }
def fnPlanBothRow : OpenClaim := { program := "ythfkpijcajdnhaagreat", sum := "7240ad37d392febb8089d256825d5864d6b98784c4e929cac97999f7bd94f2b5", func := "loop.example/tideline/laws.FnPlanBoth", spec := "fnPlanBoth", inPlace := ["internal/reflectlite.ValueOf", "internal/reflectlite.Swapper", "(internal/reflectlite.Value).Len"], unfollowed := true, recurses := true, plainKeys := false, apart := false }
def FnPlanBothSaid : Prop := fnPlanBothRow.holds Tryz.pinned (OpenSpec.ofChange fnPlanBothSpec)

/-- ITS FALSE NEIGHBOUR: 'it returns false'. Refute it at one input. -/
def fnPlanBothWrong : ChangeSpec := { name := "fnPlanBoth", fn := fun _ => fun
  | [d] => { results := [.lit (.bool false)], args := [d] }
  | _ => none }
def FnPlanBothWrongFalsely : Prop := fnPlanBothRow.holds Tryz.pinned (OpenSpec.ofChange fnPlanBothWrong)

/-- 'laws.FnPlanStep': WHATEVER THE INPUT: true; the input reads as it did. -/
def fnPlanStepSpec : ChangeSpec := { name := "fnPlanStep", fn := fun _ => fun
  | [d] => { results := [.lit (.bool true)], args := [d] }
  | _ => none }
def fnPlanStepRow : OpenClaim := { program := "ythfkpijcajdnhaagreat", sum := "7240ad37d392febb8089d256825d5864d6b98784c4e929cac97999f7bd94f2b5", func := "loop.example/tideline/laws.FnPlanStep", spec := "fnPlanStep", inPlace := ["internal/reflectlite.ValueOf", "internal/reflectlite.Swapper", "(internal/reflectlite.Value).Len"], unfollowed := true, recurses := true, plainKeys := false, apart := false }
def FnPlanStepSaid : Prop := fnPlanStepRow.holds Tryz.pinned (OpenSpec.ofChange fnPlanStepSpec)

/-- ITS FALSE NEIGHBOUR: 'it returns false'. Refute it at one input. -/
def fnPlanStepWrong : ChangeSpec := { name := "fnPlanStep", fn := fun _ => fun
  | [d] => { results := [.lit (.bool false)], args := [d] }
  | _ => none }
def FnPlanStepWrongFalsely : Prop := fnPlanStepRow.holds Tryz.pinned (OpenSpec.ofChange fnPlanStepWrong)

/-- 'laws.FnPlanLess': WHATEVER THE INPUT: true; the input reads as it did. -/
def fnPlanLessSpec : ChangeSpec := { name := "fnPlanLess", fn := fun _ => fun
  | [d] => { results := [.lit (.bool true)], args := [d] }
  | _ => none }
def fnPlanLessRow : OpenClaim := { program := "ythfkpijcajdnhaagreat", sum := "7240ad37d392febb8089d256825d5864d6b98784c4e929cac97999f7bd94f2b5", func := "loop.example/tideline/laws.FnPlanLess", spec := "fnPlanLess", inPlace := ["internal/reflectlite.ValueOf", "internal/reflectlite.Swapper", "(internal/reflectlite.Value).Len"], unfollowed := true, recurses := true, plainKeys := false, apart := false }
def FnPlanLessSaid : Prop := fnPlanLessRow.holds Tryz.pinned (OpenSpec.ofChange fnPlanLessSpec)

/-- ITS FALSE NEIGHBOUR: 'it returns false'. Refute it at one input. -/
def fnPlanLessWrong : ChangeSpec := { name := "fnPlanLess", fn := fun _ => fun
  | [d] => { results := [.lit (.bool false)], args := [d] }
  | _ => none }
def FnPlanLessWrongFalsely : Prop := fnPlanLessRow.holds Tryz.pinned (OpenSpec.ofChange fnPlanLessWrong)

/-- 'laws.FnPlanIns': WHATEVER THE INPUT: true; the input reads as it did. -/
def fnPlanInsSpec : ChangeSpec := { name := "fnPlanIns", fn := fun _ => fun
  | [d] => { results := [.lit (.bool true)], args := [d] }
  | _ => none }
def fnPlanInsRow : OpenClaim := { program := "ythfkpijcajdnhaagreat", sum := "7240ad37d392febb8089d256825d5864d6b98784c4e929cac97999f7bd94f2b5", func := "loop.example/tideline/laws.FnPlanIns", spec := "fnPlanIns", inPlace := ["internal/reflectlite.ValueOf", "internal/reflectlite.Swapper", "(internal/reflectlite.Value).Len"], unfollowed := true, recurses := true, plainKeys := false, apart := false }
def FnPlanInsSaid : Prop := fnPlanInsRow.holds Tryz.pinned (OpenSpec.ofChange fnPlanInsSpec)

/-- ITS FALSE NEIGHBOUR: 'it returns false'. Refute it at one input. -/
def fnPlanInsWrong : ChangeSpec := { name := "fnPlanIns", fn := fun _ => fun
  | [d] => { results := [.lit (.bool false)], args := [d] }
  | _ => none }
def FnPlanInsWrongFalsely : Prop := fnPlanInsRow.holds Tryz.pinned (OpenSpec.ofChange fnPlanInsWrong)

/-- 'laws.FnPlanSame': WHATEVER THE INPUT: true; the input reads as it did. -/
def fnPlanSameSpec : ChangeSpec := { name := "fnPlanSame", fn := fun _ => fun
  | [d] => { results := [.lit (.bool true)], args := [d] }
  | _ => none }
def fnPlanSameRow : OpenClaim := { program := "ythfkpijcajdnhaagreat", sum := "7240ad37d392febb8089d256825d5864d6b98784c4e929cac97999f7bd94f2b5", func := "loop.example/tideline/laws.FnPlanSame", spec := "fnPlanSame", inPlace := ["internal/reflectlite.ValueOf", "internal/reflectlite.Swapper", "(internal/reflectlite.Value).Len"], unfollowed := true, recurses := true, plainKeys := false, apart := false }
def FnPlanSameSaid : Prop := fnPlanSameRow.holds Tryz.pinned (OpenSpec.ofChange fnPlanSameSpec)

/-- ITS FALSE NEIGHBOUR: 'it returns false'. Refute it at one input. -/
def fnPlanSameWrong : ChangeSpec := { name := "fnPlanSame", fn := fun _ => fun
  | [d] => { results := [.lit (.bool false)], args := [d] }
  | _ => none }
def FnPlanSameWrongFalsely : Prop := fnPlanSameRow.holds Tryz.pinned (OpenSpec.ofChange fnPlanSameWrong)

/-- 'laws.FnPlanAhead': WHATEVER THE INPUT: true; the input reads as it did. -/
def fnPlanAheadSpec : ChangeSpec := { name := "fnPlanAhead", fn := fun _ => fun
  | [d1, d2] => { results := [.lit (.bool true)], args := [d1, d2] }
  | _ => none }
def fnPlanAheadRow : OpenClaim := { program := "ythfkpijcajdnhaagreat", sum := "7240ad37d392febb8089d256825d5864d6b98784c4e929cac97999f7bd94f2b5", func := "loop.example/tideline/laws.FnPlanAhead", spec := "fnPlanAhead", inPlace := ["internal/reflectlite.ValueOf", "internal/reflectlite.Swapper", "(internal/reflectlite.Value).Len"], unfollowed := true, recurses := true, plainKeys := false, apart := false }
def FnPlanAheadSaid : Prop := fnPlanAheadRow.holds Tryz.pinned (OpenSpec.ofChange fnPlanAheadSpec)

/-- ITS FALSE NEIGHBOUR: 'it returns false'. Refute it at one input. -/
def fnPlanAheadWrong : ChangeSpec := { name := "fnPlanAhead", fn := fun _ => fun
  | [d1, d2] => { results := [.lit (.bool false)], args := [d1, d2] }
  | _ => none }
def FnPlanAheadWrongFalsely : Prop := fnPlanAheadRow.holds Tryz.pinned (OpenSpec.ofChange fnPlanAheadWrong)

/-- 'laws.FnPlanTop': WHATEVER THE INPUT: true; the input reads as it did. -/
def fnPlanTopSpec : ChangeSpec := { name := "fnPlanTop", fn := fun _ => fun
  | [d] => { results := [.lit (.bool true)], args := [d] }
  | _ => none }
def fnPlanTopRow : OpenClaim := { program := "ythfkpijcajdnhaagreat", sum := "7240ad37d392febb8089d256825d5864d6b98784c4e929cac97999f7bd94f2b5", func := "loop.example/tideline/laws.FnPlanTop", spec := "fnPlanTop", inPlace := ["internal/reflectlite.ValueOf", "internal/reflectlite.Swapper", "(internal/reflectlite.Value).Len"], unfollowed := true, recurses := true, plainKeys := false, apart := false }
def FnPlanTopSaid : Prop := fnPlanTopRow.holds Tryz.pinned (OpenSpec.ofChange fnPlanTopSpec)

/-- ITS FALSE NEIGHBOUR: 'it returns false'. Refute it at one input. -/
def fnPlanTopWrong : ChangeSpec := { name := "fnPlanTop", fn := fun _ => fun
  | [d] => { results := [.lit (.bool false)], args := [d] }
  | _ => none }
def FnPlanTopWrongFalsely : Prop := fnPlanTopRow.holds Tryz.pinned (OpenSpec.ofChange fnPlanTopWrong)

/-- 'laws.FnPlanMove': WHATEVER THE INPUT: true; the input reads as it did. -/
def fnPlanMoveSpec : ChangeSpec := { name := "fnPlanMove", fn := fun _ => fun
  | [d1, d2] => { results := [.lit (.bool true)], args := [d1, d2] }
  | _ => none }
def fnPlanMoveRow : OpenClaim := { program := "ythfkpijcajdnhaagreat", sum := "7240ad37d392febb8089d256825d5864d6b98784c4e929cac97999f7bd94f2b5", func := "loop.example/tideline/laws.FnPlanMove", spec := "fnPlanMove", inPlace := ["internal/reflectlite.ValueOf", "internal/reflectlite.Swapper", "(internal/reflectlite.Value).Len"], unfollowed := true, recurses := true, plainKeys := false, apart := false }
def FnPlanMoveSaid : Prop := fnPlanMoveRow.holds Tryz.pinned (OpenSpec.ofChange fnPlanMoveSpec)

/-- ITS FALSE NEIGHBOUR: 'it returns false'. Refute it at one input. -/
def fnPlanMoveWrong : ChangeSpec := { name := "fnPlanMove", fn := fun _ => fun
  | [d1, d2] => { results := [.lit (.bool false)], args := [d1, d2] }
  | _ => none }
def FnPlanMoveWrongFalsely : Prop := fnPlanMoveRow.holds Tryz.pinned (OpenSpec.ofChange fnPlanMoveWrong)

/- THE SECOND FORM. 'bulk': how many values and letters a reading holds, each counted each time it is reached (what is shared counts as often as it is met; a slice's spare places count too). A statement '..UptoSaid' is the law's where the arguments, and the package variables that the reading takes, are together of bulk at most 1048576: NARROWER than '..Said'. Prove '..Said' where nothing that the law and all that it calls make is longer than what came in: it says more and counts as full. Else prove '..UptoSaid'. A law counts once. -/
mutual
def uptoBulk {H : Type} : DataW H → Nat
  | .lit (.string bytes) => bytes.length + 1
  | .lit _ => 1
  | .nil => 1
  | .ptr d => uptoBulk d + 1
  | .slice elems spare => uptoBulkAll elems + uptoBulkAll spare + 1
  | .agg parts => uptoBulkAll parts + 1
  | .iface _ d => uptoBulk d + 1
  | .map entries => uptoBulkEntries entries + 1
  | .held _ => 1
def uptoBulkAll {H : Type} : List (DataW H) → Nat
  | [] => 0
  | d :: r => uptoBulk d + uptoBulkAll r
def uptoBulkEntries {H : Type} : List (Lit × DataW H) → Nat
  | [] => 0
  | x :: r => uptoBulkEntry x + uptoBulkEntries r
def uptoBulkEntry {H : Type} : Lit × DataW H → Nat
  | (.string bytes, d) => bytes.length + uptoBulk d + 1
  | (_, d) => uptoBulk d + 1
 end
def uptoSmall : (H : Type) → List (DataW H) → Bool := fun _ ds => decide (uptoBulkAll ds ≤ 1048576)
def OpenSpec.upto (s : _root_.Go.ChangeSpec) : _root_.Go.OpenSpec := { _root_.Go.OpenSpec.ofChange s with cond := some uptoSmall }

/-- 'laws.FnPlanBatch', WHERE WHAT IT READS IS OF BULK AT MOST 1048576: true; the input reads as it did. -/
def fnPlanBatchUptoRow : OpenClaim := { program := "ythfkpijcajdnhaagreat", sum := "7240ad37d392febb8089d256825d5864d6b98784c4e929cac97999f7bd94f2b5", func := "loop.example/tideline/laws.FnPlanBatch", spec := "fnPlanBatch", inPlace := ["internal/reflectlite.ValueOf", "internal/reflectlite.Swapper", "(internal/reflectlite.Value).Len"], unfollowed := true, recurses := true, plainKeys := false, apart := false, narrowed := true }
def FnPlanBatchUptoSaid : Prop := fnPlanBatchUptoRow.holds Tryz.pinned (OpenSpec.upto fnPlanBatchSpec)

/-- 'laws.FnPlanBoth', WHERE WHAT IT READS IS OF BULK AT MOST 1048576: true; the input reads as it did. -/
def fnPlanBothUptoRow : OpenClaim := { program := "ythfkpijcajdnhaagreat", sum := "7240ad37d392febb8089d256825d5864d6b98784c4e929cac97999f7bd94f2b5", func := "loop.example/tideline/laws.FnPlanBoth", spec := "fnPlanBoth", inPlace := ["internal/reflectlite.ValueOf", "internal/reflectlite.Swapper", "(internal/reflectlite.Value).Len"], unfollowed := true, recurses := true, plainKeys := false, apart := false, narrowed := true }
def FnPlanBothUptoSaid : Prop := fnPlanBothUptoRow.holds Tryz.pinned (OpenSpec.upto fnPlanBothSpec)

/-- 'laws.FnPlanStep', WHERE WHAT IT READS IS OF BULK AT MOST 1048576: true; the input reads as it did. -/
def fnPlanStepUptoRow : OpenClaim := { program := "ythfkpijcajdnhaagreat", sum := "7240ad37d392febb8089d256825d5864d6b98784c4e929cac97999f7bd94f2b5", func := "loop.example/tideline/laws.FnPlanStep", spec := "fnPlanStep", inPlace := ["internal/reflectlite.ValueOf", "internal/reflectlite.Swapper", "(internal/reflectlite.Value).Len"], unfollowed := true, recurses := true, plainKeys := false, apart := false, narrowed := true }
def FnPlanStepUptoSaid : Prop := fnPlanStepUptoRow.holds Tryz.pinned (OpenSpec.upto fnPlanStepSpec)

/-- 'laws.FnPlanLess', WHERE WHAT IT READS IS OF BULK AT MOST 1048576: true; the input reads as it did. -/
def fnPlanLessUptoRow : OpenClaim := { program := "ythfkpijcajdnhaagreat", sum := "7240ad37d392febb8089d256825d5864d6b98784c4e929cac97999f7bd94f2b5", func := "loop.example/tideline/laws.FnPlanLess", spec := "fnPlanLess", inPlace := ["internal/reflectlite.ValueOf", "internal/reflectlite.Swapper", "(internal/reflectlite.Value).Len"], unfollowed := true, recurses := true, plainKeys := false, apart := false, narrowed := true }
def FnPlanLessUptoSaid : Prop := fnPlanLessUptoRow.holds Tryz.pinned (OpenSpec.upto fnPlanLessSpec)

/-- 'laws.FnPlanIns', WHERE WHAT IT READS IS OF BULK AT MOST 1048576: true; the input reads as it did. -/
def fnPlanInsUptoRow : OpenClaim := { program := "ythfkpijcajdnhaagreat", sum := "7240ad37d392febb8089d256825d5864d6b98784c4e929cac97999f7bd94f2b5", func := "loop.example/tideline/laws.FnPlanIns", spec := "fnPlanIns", inPlace := ["internal/reflectlite.ValueOf", "internal/reflectlite.Swapper", "(internal/reflectlite.Value).Len"], unfollowed := true, recurses := true, plainKeys := false, apart := false, narrowed := true }
def FnPlanInsUptoSaid : Prop := fnPlanInsUptoRow.holds Tryz.pinned (OpenSpec.upto fnPlanInsSpec)

/-- 'laws.FnPlanSame', WHERE WHAT IT READS IS OF BULK AT MOST 1048576: true; the input reads as it did. -/
def fnPlanSameUptoRow : OpenClaim := { program := "ythfkpijcajdnhaagreat", sum := "7240ad37d392febb8089d256825d5864d6b98784c4e929cac97999f7bd94f2b5", func := "loop.example/tideline/laws.FnPlanSame", spec := "fnPlanSame", inPlace := ["internal/reflectlite.ValueOf", "internal/reflectlite.Swapper", "(internal/reflectlite.Value).Len"], unfollowed := true, recurses := true, plainKeys := false, apart := false, narrowed := true }
def FnPlanSameUptoSaid : Prop := fnPlanSameUptoRow.holds Tryz.pinned (OpenSpec.upto fnPlanSameSpec)

/-- 'laws.FnPlanAhead', WHERE WHAT IT READS IS OF BULK AT MOST 1048576: true; the input reads as it did. -/
def fnPlanAheadUptoRow : OpenClaim := { program := "ythfkpijcajdnhaagreat", sum := "7240ad37d392febb8089d256825d5864d6b98784c4e929cac97999f7bd94f2b5", func := "loop.example/tideline/laws.FnPlanAhead", spec := "fnPlanAhead", inPlace := ["internal/reflectlite.ValueOf", "internal/reflectlite.Swapper", "(internal/reflectlite.Value).Len"], unfollowed := true, recurses := true, plainKeys := false, apart := false, narrowed := true }
def FnPlanAheadUptoSaid : Prop := fnPlanAheadUptoRow.holds Tryz.pinned (OpenSpec.upto fnPlanAheadSpec)

/-- 'laws.FnPlanTop', WHERE WHAT IT READS IS OF BULK AT MOST 1048576: true; the input reads as it did. -/
def fnPlanTopUptoRow : OpenClaim := { program := "ythfkpijcajdnhaagreat", sum := "7240ad37d392febb8089d256825d5864d6b98784c4e929cac97999f7bd94f2b5", func := "loop.example/tideline/laws.FnPlanTop", spec := "fnPlanTop", inPlace := ["internal/reflectlite.ValueOf", "internal/reflectlite.Swapper", "(internal/reflectlite.Value).Len"], unfollowed := true, recurses := true, plainKeys := false, apart := false, narrowed := true }
def FnPlanTopUptoSaid : Prop := fnPlanTopUptoRow.holds Tryz.pinned (OpenSpec.upto fnPlanTopSpec)

/-- 'laws.FnPlanMove', WHERE WHAT IT READS IS OF BULK AT MOST 1048576: true; the input reads as it did. -/
def fnPlanMoveUptoRow : OpenClaim := { program := "ythfkpijcajdnhaagreat", sum := "7240ad37d392febb8089d256825d5864d6b98784c4e929cac97999f7bd94f2b5", func := "loop.example/tideline/laws.FnPlanMove", spec := "fnPlanMove", inPlace := ["internal/reflectlite.ValueOf", "internal/reflectlite.Swapper", "(internal/reflectlite.Value).Len"], unfollowed := true, recurses := true, plainKeys := false, apart := false, narrowed := true }
def FnPlanMoveUptoSaid : Prop := fnPlanMoveUptoRow.holds Tryz.pinned (OpenSpec.upto fnPlanMoveSpec)

end Rows
end Go.Proofs.YthfkpijcajdnhaaGreat
