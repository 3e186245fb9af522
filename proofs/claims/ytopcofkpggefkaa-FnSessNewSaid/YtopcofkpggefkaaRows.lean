/-
  NARROWER THAN 'FOR EVERY INPUT', by the rows' own cells (each row's printed sentence says how): FnExactSessNew: loops.
  DERIVED. THE GIVEN ROWS OF THIS SEAT. 16 by the template 'for every input the law returns true; each argument reads behind the call as it read before'; 0 by the template 'total and deterministic' (their statements: YtopcofkpggefkaaTotals.lean).
  GIVEN WITH THE SEED: the statements are not yours to turn. If you find one false, say at which input.
  Laid BY PROGRAM, IN A SANDBOX (cutbox-rows.mjs): the forced cells as the released guide's own fill.sh prints them over the translation 7bd9d43afd20a1ab… (all of the seat's roots in one cut). By AI agents, Wed Nov 11 2026. No macro, syntax, notation, axiom, sorry.
-/
import Derived.Test.YtopcofkpggefkaaChecked
import GoSem.Claim
import GoSem.ClaimJoined
import GoSem.ClaimMapViews
import Derived.JoinedTies
import Derived.KernelRfl
namespace Go.Proofs.Ytopcofkpggefkaa
/- THE CELL 'sum', in the pinned program and in every row, IS THE sha256 OF THE DUMP (.gsa) THAT YtopcofkpggefkaaProg.lean LOADS. Nothing in Lean hashes anything: it is a label: what it is worth is what the hold of that sum in a sandbox is worth. -/
noncomputable def Try.pinned : Pinned := { name := "ytopcofkpggefkaa", sum := "7bd9d43afd20a1ab2ef28c951073da0d4221fb6e222dd4c3ab8536d88dbb3d59", checked := Try.checked }
namespace Rows
def none {H : Type} : Left H := { results := [], args := [] }

/-- 'laws.FnExactSessNew': WHATEVER THE INPUT: true; the input reads as it did. -/
def fnExactSessNewSpec : ChangeSpec := { name := "fnExactSessNew", fn := fun _ => fun
  | [d] => { results := [.lit (.bool true)], args := [d] }
  | _ => none }
def fnExactSessNewRow : OpenClaim := { program := "ytopcofkpggefkaa", sum := "7bd9d43afd20a1ab2ef28c951073da0d4221fb6e222dd4c3ab8536d88dbb3d59", func := "loop.example/tideline/laws.FnExactSessNew", spec := "fnExactSessNew", recurses := true, loops := true, plainKeys := false, apart := false }
def FnExactSessNewSaid : Prop := fnExactSessNewRow.holds Try.pinned (OpenSpec.ofChange fnExactSessNewSpec)

/-- ITS FALSE NEIGHBOUR: 'it returns false'. Refute it at one input. -/
def fnExactSessNewWrong : ChangeSpec := { name := "fnExactSessNew", fn := fun _ => fun
  | [d] => { results := [.lit (.bool false)], args := [d] }
  | _ => none }
def FnExactSessNewWrongFalsely : Prop := fnExactSessNewRow.holds Try.pinned (OpenSpec.ofChange fnExactSessNewWrong)

/-- 'laws.FnExactLoopStep': WHATEVER THE INPUT: true; the input reads as it did. -/
def fnExactLoopStepSpec : ChangeSpec := { name := "fnExactLoopStep", fn := fun _ => fun
  | [d1, d2, d3] => { results := [.lit (.bool true)], args := [d1, d2, d3] }
  | _ => none }
def fnExactLoopStepRow : OpenClaim := { program := "ytopcofkpggefkaa", sum := "7bd9d43afd20a1ab2ef28c951073da0d4221fb6e222dd4c3ab8536d88dbb3d59", func := "loop.example/tideline/laws.FnExactLoopStep", spec := "fnExactLoopStep", inPlace := ["internal/reflectlite.ValueOf", "internal/reflectlite.Swapper", "(internal/reflectlite.Value).Len"], unfollowed := true, recurses := true, plainKeys := false, apart := false }
def FnExactLoopStepSaid : Prop := fnExactLoopStepRow.holds Try.pinned (OpenSpec.ofChange fnExactLoopStepSpec)

/-- ITS FALSE NEIGHBOUR: 'it returns false'. Refute it at one input. -/
def fnExactLoopStepWrong : ChangeSpec := { name := "fnExactLoopStep", fn := fun _ => fun
  | [d1, d2, d3] => { results := [.lit (.bool false)], args := [d1, d2, d3] }
  | _ => none }
def FnExactLoopStepWrongFalsely : Prop := fnExactLoopStepRow.holds Try.pinned (OpenSpec.ofChange fnExactLoopStepWrong)

/-- 'laws.FnExactLoopOut': WHATEVER THE INPUT: true; the input reads as it did. -/
def fnExactLoopOutSpec : ChangeSpec := { name := "fnExactLoopOut", fn := fun _ => fun
  | [d1, d2] => { results := [.lit (.bool true)], args := [d1, d2] }
  | _ => none }
def fnExactLoopOutRow : OpenClaim := { program := "ytopcofkpggefkaa", sum := "7bd9d43afd20a1ab2ef28c951073da0d4221fb6e222dd4c3ab8536d88dbb3d59", func := "loop.example/tideline/laws.FnExactLoopOut", spec := "fnExactLoopOut", inPlace := ["internal/reflectlite.ValueOf", "internal/reflectlite.Swapper", "(internal/reflectlite.Value).Len"], unfollowed := true, recurses := true, plainKeys := false, apart := false }
def FnExactLoopOutSaid : Prop := fnExactLoopOutRow.holds Try.pinned (OpenSpec.ofChange fnExactLoopOutSpec)

/-- ITS FALSE NEIGHBOUR: 'it returns false'. Refute it at one input. -/
def fnExactLoopOutWrong : ChangeSpec := { name := "fnExactLoopOut", fn := fun _ => fun
  | [d1, d2] => { results := [.lit (.bool false)], args := [d1, d2] }
  | _ => none }
def FnExactLoopOutWrongFalsely : Prop := fnExactLoopOutRow.holds Try.pinned (OpenSpec.ofChange fnExactLoopOutWrong)

/-- 'laws.FnExactLoopSet': WHATEVER THE INPUT: true; the input reads as it did. -/
def fnExactLoopSetSpec : ChangeSpec := { name := "fnExactLoopSet", fn := fun _ => fun
  | [d1, d2, d3] => { results := [.lit (.bool true)], args := [d1, d2, d3] }
  | _ => none }
def fnExactLoopSetRow : OpenClaim := { program := "ytopcofkpggefkaa", sum := "7bd9d43afd20a1ab2ef28c951073da0d4221fb6e222dd4c3ab8536d88dbb3d59", func := "loop.example/tideline/laws.FnExactLoopSet", spec := "fnExactLoopSet", inPlace := ["internal/reflectlite.ValueOf", "internal/reflectlite.Swapper", "(internal/reflectlite.Value).Len"], unfollowed := true, recurses := true, plainKeys := false, apart := false }
def FnExactLoopSetSaid : Prop := fnExactLoopSetRow.holds Try.pinned (OpenSpec.ofChange fnExactLoopSetSpec)

/-- ITS FALSE NEIGHBOUR: 'it returns false'. Refute it at one input. -/
def fnExactLoopSetWrong : ChangeSpec := { name := "fnExactLoopSet", fn := fun _ => fun
  | [d1, d2, d3] => { results := [.lit (.bool false)], args := [d1, d2, d3] }
  | _ => none }
def FnExactLoopSetWrongFalsely : Prop := fnExactLoopSetRow.holds Try.pinned (OpenSpec.ofChange fnExactLoopSetWrong)

/-- 'laws.FnLoopStep': WHATEVER THE INPUT: true; the input reads as it did. -/
def fnLoopStepSpec : ChangeSpec := { name := "fnLoopStep", fn := fun _ => fun
  | [d] => { results := [.lit (.bool true)], args := [d] }
  | _ => none }
def fnLoopStepRow : OpenClaim := { program := "ytopcofkpggefkaa", sum := "7bd9d43afd20a1ab2ef28c951073da0d4221fb6e222dd4c3ab8536d88dbb3d59", func := "loop.example/tideline/laws.FnLoopStep", spec := "fnLoopStep", inPlace := ["internal/reflectlite.ValueOf", "internal/reflectlite.Swapper", "(internal/reflectlite.Value).Len"], unfollowed := true, recurses := true, plainKeys := false, apart := false }
def FnLoopStepSaid : Prop := fnLoopStepRow.holds Try.pinned (OpenSpec.ofChange fnLoopStepSpec)

/-- ITS FALSE NEIGHBOUR: 'it returns false'. Refute it at one input. -/
def fnLoopStepWrong : ChangeSpec := { name := "fnLoopStep", fn := fun _ => fun
  | [d] => { results := [.lit (.bool false)], args := [d] }
  | _ => none }
def FnLoopStepWrongFalsely : Prop := fnLoopStepRow.holds Try.pinned (OpenSpec.ofChange fnLoopStepWrong)

/-- 'laws.FnLoopFix': WHATEVER THE INPUT: true; the input reads as it did. -/
def fnLoopFixSpec : ChangeSpec := { name := "fnLoopFix", fn := fun _ => fun
  | [d] => { results := [.lit (.bool true)], args := [d] }
  | _ => none }
def fnLoopFixRow : OpenClaim := { program := "ytopcofkpggefkaa", sum := "7bd9d43afd20a1ab2ef28c951073da0d4221fb6e222dd4c3ab8536d88dbb3d59", func := "loop.example/tideline/laws.FnLoopFix", spec := "fnLoopFix", inPlace := ["internal/reflectlite.ValueOf", "internal/reflectlite.Swapper", "(internal/reflectlite.Value).Len"], unfollowed := true, recurses := true, plainKeys := false, apart := false }
def FnLoopFixSaid : Prop := fnLoopFixRow.holds Try.pinned (OpenSpec.ofChange fnLoopFixSpec)

/-- ITS FALSE NEIGHBOUR: 'it returns false'. Refute it at one input. -/
def fnLoopFixWrong : ChangeSpec := { name := "fnLoopFix", fn := fun _ => fun
  | [d] => { results := [.lit (.bool false)], args := [d] }
  | _ => none }
def FnLoopFixWrongFalsely : Prop := fnLoopFixRow.holds Try.pinned (OpenSpec.ofChange fnLoopFixWrong)

/-- 'laws.FnLoopFour': WHATEVER THE INPUT: true; the input reads as it did. -/
def fnLoopFourSpec : ChangeSpec := { name := "fnLoopFour", fn := fun _ => fun
  | [d] => { results := [.lit (.bool true)], args := [d] }
  | _ => none }
def fnLoopFourRow : OpenClaim := { program := "ytopcofkpggefkaa", sum := "7bd9d43afd20a1ab2ef28c951073da0d4221fb6e222dd4c3ab8536d88dbb3d59", func := "loop.example/tideline/laws.FnLoopFour", spec := "fnLoopFour", inPlace := ["internal/reflectlite.ValueOf", "internal/reflectlite.Swapper", "(internal/reflectlite.Value).Len"], unfollowed := true, recurses := true, plainKeys := false, apart := false }
def FnLoopFourSaid : Prop := fnLoopFourRow.holds Try.pinned (OpenSpec.ofChange fnLoopFourSpec)

/-- ITS FALSE NEIGHBOUR: 'it returns false'. Refute it at one input. -/
def fnLoopFourWrong : ChangeSpec := { name := "fnLoopFour", fn := fun _ => fun
  | [d] => { results := [.lit (.bool false)], args := [d] }
  | _ => none }
def FnLoopFourWrongFalsely : Prop := fnLoopFourRow.holds Try.pinned (OpenSpec.ofChange fnLoopFourWrong)

/-- 'laws.FnLoopSet': WHATEVER THE INPUT: true; the input reads as it did. -/
def fnLoopSetSpec : ChangeSpec := { name := "fnLoopSet", fn := fun _ => fun
  | [d] => { results := [.lit (.bool true)], args := [d] }
  | _ => none }
def fnLoopSetRow : OpenClaim := { program := "ytopcofkpggefkaa", sum := "7bd9d43afd20a1ab2ef28c951073da0d4221fb6e222dd4c3ab8536d88dbb3d59", func := "loop.example/tideline/laws.FnLoopSet", spec := "fnLoopSet", inPlace := ["internal/reflectlite.ValueOf", "internal/reflectlite.Swapper", "(internal/reflectlite.Value).Len"], unfollowed := true, recurses := true, plainKeys := false, apart := false }
def FnLoopSetSaid : Prop := fnLoopSetRow.holds Try.pinned (OpenSpec.ofChange fnLoopSetSpec)

/-- ITS FALSE NEIGHBOUR: 'it returns false'. Refute it at one input. -/
def fnLoopSetWrong : ChangeSpec := { name := "fnLoopSet", fn := fun _ => fun
  | [d] => { results := [.lit (.bool false)], args := [d] }
  | _ => none }
def FnLoopSetWrongFalsely : Prop := fnLoopSetRow.holds Try.pinned (OpenSpec.ofChange fnLoopSetWrong)

/-- 'laws.FnLoopMore': WHATEVER THE INPUT: true; the input reads as it did. -/
def fnLoopMoreSpec : ChangeSpec := { name := "fnLoopMore", fn := fun _ => fun
  | [d] => { results := [.lit (.bool true)], args := [d] }
  | _ => none }
def fnLoopMoreRow : OpenClaim := { program := "ytopcofkpggefkaa", sum := "7bd9d43afd20a1ab2ef28c951073da0d4221fb6e222dd4c3ab8536d88dbb3d59", func := "loop.example/tideline/laws.FnLoopMore", spec := "fnLoopMore", inPlace := ["internal/reflectlite.ValueOf", "internal/reflectlite.Swapper", "(internal/reflectlite.Value).Len"], unfollowed := true, recurses := true, plainKeys := false, apart := false }
def FnLoopMoreSaid : Prop := fnLoopMoreRow.holds Try.pinned (OpenSpec.ofChange fnLoopMoreSpec)

/-- ITS FALSE NEIGHBOUR: 'it returns false'. Refute it at one input. -/
def fnLoopMoreWrong : ChangeSpec := { name := "fnLoopMore", fn := fun _ => fun
  | [d] => { results := [.lit (.bool false)], args := [d] }
  | _ => none }
def FnLoopMoreWrongFalsely : Prop := fnLoopMoreRow.holds Try.pinned (OpenSpec.ofChange fnLoopMoreWrong)

/-- 'laws.FnLoopNone': WHATEVER THE INPUT: true; the input reads as it did. -/
def fnLoopNoneSpec : ChangeSpec := { name := "fnLoopNone", fn := fun _ => fun
  | [d] => { results := [.lit (.bool true)], args := [d] }
  | _ => none }
def fnLoopNoneRow : OpenClaim := { program := "ytopcofkpggefkaa", sum := "7bd9d43afd20a1ab2ef28c951073da0d4221fb6e222dd4c3ab8536d88dbb3d59", func := "loop.example/tideline/laws.FnLoopNone", spec := "fnLoopNone", inPlace := ["internal/reflectlite.ValueOf", "internal/reflectlite.Swapper", "(internal/reflectlite.Value).Len"], unfollowed := true, recurses := true, plainKeys := false, apart := false }
def FnLoopNoneSaid : Prop := fnLoopNoneRow.holds Try.pinned (OpenSpec.ofChange fnLoopNoneSpec)

/-- ITS FALSE NEIGHBOUR: 'it returns false'. Refute it at one input. -/
def fnLoopNoneWrong : ChangeSpec := { name := "fnLoopNone", fn := fun _ => fun
  | [d] => { results := [.lit (.bool false)], args := [d] }
  | _ => none }
def FnLoopNoneWrongFalsely : Prop := fnLoopNoneRow.holds Try.pinned (OpenSpec.ofChange fnLoopNoneWrong)

/-- 'laws.FnLoopOut': WHATEVER THE INPUT: true; the input reads as it did. -/
def fnLoopOutSpec : ChangeSpec := { name := "fnLoopOut", fn := fun _ => fun
  | [d] => { results := [.lit (.bool true)], args := [d] }
  | _ => none }
def fnLoopOutRow : OpenClaim := { program := "ytopcofkpggefkaa", sum := "7bd9d43afd20a1ab2ef28c951073da0d4221fb6e222dd4c3ab8536d88dbb3d59", func := "loop.example/tideline/laws.FnLoopOut", spec := "fnLoopOut", inPlace := ["internal/reflectlite.ValueOf", "internal/reflectlite.Swapper", "(internal/reflectlite.Value).Len"], unfollowed := true, recurses := true, plainKeys := false, apart := false }
def FnLoopOutSaid : Prop := fnLoopOutRow.holds Try.pinned (OpenSpec.ofChange fnLoopOutSpec)

/-- ITS FALSE NEIGHBOUR: 'it returns false'. Refute it at one input. -/
def fnLoopOutWrong : ChangeSpec := { name := "fnLoopOut", fn := fun _ => fun
  | [d] => { results := [.lit (.bool false)], args := [d] }
  | _ => none }
def FnLoopOutWrongFalsely : Prop := fnLoopOutRow.holds Try.pinned (OpenSpec.ofChange fnLoopOutWrong)

/-- 'laws.FnLoopBatch': WHATEVER THE INPUT: true; the input reads as it did. -/
def fnLoopBatchSpec : ChangeSpec := { name := "fnLoopBatch", fn := fun _ => fun
  | [d] => { results := [.lit (.bool true)], args := [d] }
  | _ => none }
def fnLoopBatchRow : OpenClaim := { program := "ytopcofkpggefkaa", sum := "7bd9d43afd20a1ab2ef28c951073da0d4221fb6e222dd4c3ab8536d88dbb3d59", func := "loop.example/tideline/laws.FnLoopBatch", spec := "fnLoopBatch", inPlace := ["internal/reflectlite.ValueOf", "internal/reflectlite.Swapper", "(internal/reflectlite.Value).Len"], unfollowed := true, recurses := true, plainKeys := false, apart := false }
def FnLoopBatchSaid : Prop := fnLoopBatchRow.holds Try.pinned (OpenSpec.ofChange fnLoopBatchSpec)

/-- ITS FALSE NEIGHBOUR: 'it returns false'. Refute it at one input. -/
def fnLoopBatchWrong : ChangeSpec := { name := "fnLoopBatch", fn := fun _ => fun
  | [d] => { results := [.lit (.bool false)], args := [d] }
  | _ => none }
def FnLoopBatchWrongFalsely : Prop := fnLoopBatchRow.holds Try.pinned (OpenSpec.ofChange fnLoopBatchWrong)

/-- 'laws.FnLoopRounds': WHATEVER THE INPUT: true; the input reads as it did. -/
def fnLoopRoundsSpec : ChangeSpec := { name := "fnLoopRounds", fn := fun _ => fun
  | [d] => { results := [.lit (.bool true)], args := [d] }
  | _ => none }
def fnLoopRoundsRow : OpenClaim := { program := "ytopcofkpggefkaa", sum := "7bd9d43afd20a1ab2ef28c951073da0d4221fb6e222dd4c3ab8536d88dbb3d59", func := "loop.example/tideline/laws.FnLoopRounds", spec := "fnLoopRounds", inPlace := ["internal/reflectlite.ValueOf", "internal/reflectlite.Swapper", "(internal/reflectlite.Value).Len"], unfollowed := true, recurses := true, plainKeys := false, apart := false }
def FnLoopRoundsSaid : Prop := fnLoopRoundsRow.holds Try.pinned (OpenSpec.ofChange fnLoopRoundsSpec)

/-- ITS FALSE NEIGHBOUR: 'it returns false'. Refute it at one input. -/
def fnLoopRoundsWrong : ChangeSpec := { name := "fnLoopRounds", fn := fun _ => fun
  | [d] => { results := [.lit (.bool false)], args := [d] }
  | _ => none }
def FnLoopRoundsWrongFalsely : Prop := fnLoopRoundsRow.holds Try.pinned (OpenSpec.ofChange fnLoopRoundsWrong)

/-- 'laws.FnExactLoopFlow': WHATEVER THE INPUT: true; the input reads as it did. -/
def fnExactLoopFlowSpec : ChangeSpec := { name := "fnExactLoopFlow", fn := fun _ => fun
  | [d1, d2, d3] => { results := [.lit (.bool true)], args := [d1, d2, d3] }
  | _ => none }
def fnExactLoopFlowRow : OpenClaim := { program := "ytopcofkpggefkaa", sum := "7bd9d43afd20a1ab2ef28c951073da0d4221fb6e222dd4c3ab8536d88dbb3d59", func := "loop.example/tideline/laws.FnExactLoopFlow", spec := "fnExactLoopFlow", inPlace := ["internal/reflectlite.ValueOf", "internal/reflectlite.Swapper", "(internal/reflectlite.Value).Len"], unfollowed := true, recurses := true, plainKeys := false, apart := false }
def FnExactLoopFlowSaid : Prop := fnExactLoopFlowRow.holds Try.pinned (OpenSpec.ofChange fnExactLoopFlowSpec)

/-- ITS FALSE NEIGHBOUR: 'it returns false'. Refute it at one input. -/
def fnExactLoopFlowWrong : ChangeSpec := { name := "fnExactLoopFlow", fn := fun _ => fun
  | [d1, d2, d3] => { results := [.lit (.bool false)], args := [d1, d2, d3] }
  | _ => none }
def FnExactLoopFlowWrongFalsely : Prop := fnExactLoopFlowRow.holds Try.pinned (OpenSpec.ofChange fnExactLoopFlowWrong)

/-- 'laws.FnLoopFlow': WHATEVER THE INPUT: true; the input reads as it did. -/
def fnLoopFlowSpec : ChangeSpec := { name := "fnLoopFlow", fn := fun _ => fun
  | [d] => { results := [.lit (.bool true)], args := [d] }
  | _ => none }
def fnLoopFlowRow : OpenClaim := { program := "ytopcofkpggefkaa", sum := "7bd9d43afd20a1ab2ef28c951073da0d4221fb6e222dd4c3ab8536d88dbb3d59", func := "loop.example/tideline/laws.FnLoopFlow", spec := "fnLoopFlow", inPlace := ["internal/reflectlite.ValueOf", "internal/reflectlite.Swapper", "(internal/reflectlite.Value).Len"], unfollowed := true, recurses := true, plainKeys := false, apart := false }
def FnLoopFlowSaid : Prop := fnLoopFlowRow.holds Try.pinned (OpenSpec.ofChange fnLoopFlowSpec)

/-- ITS FALSE NEIGHBOUR: 'it returns false'. Refute it at one input. -/
def fnLoopFlowWrong : ChangeSpec := { name := "fnLoopFlow", fn := fun _ => fun
  | [d] => { results := [.lit (.bool false)], args := [d] }
  | _ => none }
def FnLoopFlowWrongFalsely : Prop := fnLoopFlowRow.holds Try.pinned (OpenSpec.ofChange fnLoopFlowWrong)

/-- 'laws.FnSessNew': WHATEVER THE INPUT: true; the input reads as it did. -/
def fnSessNewSpec : ChangeSpec := { name := "fnSessNew", fn := fun _ => fun
  | [d] => { results := [.lit (.bool true)], args := [d] }
  | _ => none }
def fnSessNewRow : OpenClaim := { program := "ytopcofkpggefkaa", sum := "7bd9d43afd20a1ab2ef28c951073da0d4221fb6e222dd4c3ab8536d88dbb3d59", func := "loop.example/tideline/laws.FnSessNew", spec := "fnSessNew", inPlace := ["internal/reflectlite.ValueOf", "internal/reflectlite.Swapper", "(internal/reflectlite.Value).Len"], unfollowed := true, recurses := true, plainKeys := false, apart := false }
def FnSessNewSaid : Prop := fnSessNewRow.holds Try.pinned (OpenSpec.ofChange fnSessNewSpec)

/-- ITS FALSE NEIGHBOUR: 'it returns false'. Refute it at one input. -/
def fnSessNewWrong : ChangeSpec := { name := "fnSessNew", fn := fun _ => fun
  | [d] => { results := [.lit (.bool false)], args := [d] }
  | _ => none }
def FnSessNewWrongFalsely : Prop := fnSessNewRow.holds Try.pinned (OpenSpec.ofChange fnSessNewWrong)

/- THE SECOND FORM. 'bulk': how many values and letters a reading holds, each counted each time it is reached (what is shared counts as often as it is met; a slice's spare places count too). A statement '..UptoSaid' is the law's where the arguments, and the package variables that the reading takes, are together of bulk at most 1048576: NARROWER than '..Said'. Prove '..Said' where nothing that the law and all that it calls make is longer than what came in: it says more and counts as full. Else prove '..UptoSaid'. A law counts once. -/
mutual
def uptoBulk {H : Type} : DataW H → Nat
  | .lit (.string bytes) => bytes.length + 1
  | .lit _ => 1
  | .nil => 1
  | .ptr d => uptoBulk d + 1
  | .slice elems spare => uptoBulkAll elems + uptoBulkAll spare + 1
  | .agg parts => uptoBulkAll parts + 1
  | .iface _ d => uptoBulk d + 1
  | .map entries => uptoBulkEntries entries + 1
  | .held _ => 1
def uptoBulkAll {H : Type} : List (DataW H) → Nat
  | [] => 0
  | d :: r => uptoBulk d + uptoBulkAll r
def uptoBulkEntries {H : Type} : List (Lit × DataW H) → Nat
  | [] => 0
  | x :: r => uptoBulkEntry x + uptoBulkEntries r
def uptoBulkEntry {H : Type} : Lit × DataW H → Nat
  | (.string bytes, d) => bytes.length + uptoBulk d + 1
  | (_, d) => uptoBulk d + 1
 end
def uptoSmall : (H : Type) → List (DataW H) → Bool := fun _ ds => decide (uptoBulkAll ds ≤ 1048576)
def OpenSpec.upto (s : _root_.Go.ChangeSpec) : _root_.Go.OpenSpec := { _root_.Go.OpenSpec.ofChange s with cond := some uptoSmall }

/-- 'laws.FnExactSessNew', WHERE WHAT IT READS IS OF BULK AT MOST 1048576: true; the input reads as it did. -/
def fnExactSessNewUptoRow : OpenClaim := { program := "ytopcofkpggefkaa", sum := "7bd9d43afd20a1ab2ef28c951073da0d4221fb6e222dd4c3ab8536d88dbb3d59", func := "loop.example/tideline/laws.FnExactSessNew", spec := "fnExactSessNew", recurses := true, loops := true, plainKeys := false, apart := false, narrowed := true }
def FnExactSessNewUptoSaid : Prop := fnExactSessNewUptoRow.holds Try.pinned (OpenSpec.upto fnExactSessNewSpec)

/-- 'laws.FnExactLoopStep', WHERE WHAT IT READS IS OF BULK AT MOST 1048576: true; the input reads as it did. -/
def fnExactLoopStepUptoRow : OpenClaim := { program := "ytopcofkpggefkaa", sum := "7bd9d43afd20a1ab2ef28c951073da0d4221fb6e222dd4c3ab8536d88dbb3d59", func := "loop.example/tideline/laws.FnExactLoopStep", spec := "fnExactLoopStep", inPlace := ["internal/reflectlite.ValueOf", "internal/reflectlite.Swapper", "(internal/reflectlite.Value).Len"], unfollowed := true, recurses := true, plainKeys := false, apart := false, narrowed := true }
def FnExactLoopStepUptoSaid : Prop := fnExactLoopStepUptoRow.holds Try.pinned (OpenSpec.upto fnExactLoopStepSpec)

/-- 'laws.FnExactLoopOut', WHERE WHAT IT READS IS OF BULK AT MOST 1048576: true; the input reads as it did. -/
def fnExactLoopOutUptoRow : OpenClaim := { program := "ytopcofkpggefkaa", sum := "7bd9d43afd20a1ab2ef28c951073da0d4221fb6e222dd4c3ab8536d88dbb3d59", func := "loop.example/tideline/laws.FnExactLoopOut", spec := "fnExactLoopOut", inPlace := ["internal/reflectlite.ValueOf", "internal/reflectlite.Swapper", "(internal/reflectlite.Value).Len"], unfollowed := true, recurses := true, plainKeys := false, apart := false, narrowed := true }
def FnExactLoopOutUptoSaid : Prop := fnExactLoopOutUptoRow.holds Try.pinned (OpenSpec.upto fnExactLoopOutSpec)

/-- 'laws.FnExactLoopSet', WHERE WHAT IT READS IS OF BULK AT MOST 1048576: true; the input reads as it did. -/
def fnExactLoopSetUptoRow : OpenClaim := { program := "ytopcofkpggefkaa", sum := "7bd9d43afd20a1ab2ef28c951073da0d4221fb6e222dd4c3ab8536d88dbb3d59", func := "loop.example/tideline/laws.FnExactLoopSet", spec := "fnExactLoopSet", inPlace := ["internal/reflectlite.ValueOf", "internal/reflectlite.Swapper", "(internal/reflectlite.Value).Len"], unfollowed := true, recurses := true, plainKeys := false, apart := false, narrowed := true }
def FnExactLoopSetUptoSaid : Prop := fnExactLoopSetUptoRow.holds Try.pinned (OpenSpec.upto fnExactLoopSetSpec)

/-- 'laws.FnLoopStep', WHERE WHAT IT READS IS OF BULK AT MOST 1048576: true; the input reads as it did. -/
def fnLoopStepUptoRow : OpenClaim := { program := "ytopcofkpggefkaa", sum := "7bd9d43afd20a1ab2ef28c951073da0d4221fb6e222dd4c3ab8536d88dbb3d59", func := "loop.example/tideline/laws.FnLoopStep", spec := "fnLoopStep", inPlace := ["internal/reflectlite.ValueOf", "internal/reflectlite.Swapper", "(internal/reflectlite.Value).Len"], unfollowed := true, recurses := true, plainKeys := false, apart := false, narrowed := true }
def FnLoopStepUptoSaid : Prop := fnLoopStepUptoRow.holds Try.pinned (OpenSpec.upto fnLoopStepSpec)

/-- 'laws.FnLoopFix', WHERE WHAT IT READS IS OF BULK AT MOST 1048576: true; the input reads as it did. -/
def fnLoopFixUptoRow : OpenClaim := { program := "ytopcofkpggefkaa", sum := "7bd9d43afd20a1ab2ef28c951073da0d4221fb6e222dd4c3ab8536d88dbb3d59", func := "loop.example/tideline/laws.FnLoopFix", spec := "fnLoopFix", inPlace := ["internal/reflectlite.ValueOf", "internal/reflectlite.Swapper", "(internal/reflectlite.Value).Len"], unfollowed := true, recurses := true, plainKeys := false, apart := false, narrowed := true }
def FnLoopFixUptoSaid : Prop := fnLoopFixUptoRow.holds Try.pinned (OpenSpec.upto fnLoopFixSpec)

/-- 'laws.FnLoopFour', WHERE WHAT IT READS IS OF BULK AT MOST 1048576: true; the input reads as it did. -/
def fnLoopFourUptoRow : OpenClaim := { program := "ytopcofkpggefkaa", sum := "7bd9d43afd20a1ab2ef28c951073da0d4221fb6e222dd4c3ab8536d88dbb3d59", func := "loop.example/tideline/laws.FnLoopFour", spec := "fnLoopFour", inPlace := ["internal/reflectlite.ValueOf", "internal/reflectlite.Swapper", "(internal/reflectlite.Value).Len"], unfollowed := true, recurses := true, plainKeys := false, apart := false, narrowed := true }
def FnLoopFourUptoSaid : Prop := fnLoopFourUptoRow.holds Try.pinned (OpenSpec.upto fnLoopFourSpec)

/-- 'laws.FnLoopSet', WHERE WHAT IT READS IS OF BULK AT MOST 1048576: true; the input reads as it did. -/
def fnLoopSetUptoRow : OpenClaim := { program := "ytopcofkpggefkaa", sum := "7bd9d43afd20a1ab2ef28c951073da0d4221fb6e222dd4c3ab8536d88dbb3d59", func := "loop.example/tideline/laws.FnLoopSet", spec := "fnLoopSet", inPlace := ["internal/reflectlite.ValueOf", "internal/reflectlite.Swapper", "(internal/reflectlite.Value).Len"], unfollowed := true, recurses := true, plainKeys := false, apart := false, narrowed := true }
def FnLoopSetUptoSaid : Prop := fnLoopSetUptoRow.holds Try.pinned (OpenSpec.upto fnLoopSetSpec)

/-- 'laws.FnLoopMore', WHERE WHAT IT READS IS OF BULK AT MOST 1048576: true; the input reads as it did. -/
def fnLoopMoreUptoRow : OpenClaim := { program := "ytopcofkpggefkaa", sum := "7bd9d43afd20a1ab2ef28c951073da0d4221fb6e222dd4c3ab8536d88dbb3d59", func := "loop.example/tideline/laws.FnLoopMore", spec := "fnLoopMore", inPlace := ["internal/reflectlite.ValueOf", "internal/reflectlite.Swapper", "(internal/reflectlite.Value).Len"], unfollowed := true, recurses := true, plainKeys := false, apart := false, narrowed := true }
def FnLoopMoreUptoSaid : Prop := fnLoopMoreUptoRow.holds Try.pinned (OpenSpec.upto fnLoopMoreSpec)

/-- 'laws.FnLoopNone', WHERE WHAT IT READS IS OF BULK AT MOST 1048576: true; the input reads as it did. -/
def fnLoopNoneUptoRow : OpenClaim := { program := "ytopcofkpggefkaa", sum := "7bd9d43afd20a1ab2ef28c951073da0d4221fb6e222dd4c3ab8536d88dbb3d59", func := "loop.example/tideline/laws.FnLoopNone", spec := "fnLoopNone", inPlace := ["internal/reflectlite.ValueOf", "internal/reflectlite.Swapper", "(internal/reflectlite.Value).Len"], unfollowed := true, recurses := true, plainKeys := false, apart := false, narrowed := true }
def FnLoopNoneUptoSaid : Prop := fnLoopNoneUptoRow.holds Try.pinned (OpenSpec.upto fnLoopNoneSpec)

/-- 'laws.FnLoopOut', WHERE WHAT IT READS IS OF BULK AT MOST 1048576: true; the input reads as it did. -/
def fnLoopOutUptoRow : OpenClaim := { program := "ytopcofkpggefkaa", sum := "7bd9d43afd20a1ab2ef28c951073da0d4221fb6e222dd4c3ab8536d88dbb3d59", func := "loop.example/tideline/laws.FnLoopOut", spec := "fnLoopOut", inPlace := ["internal/reflectlite.ValueOf", "internal/reflectlite.Swapper", "(internal/reflectlite.Value).Len"], unfollowed := true, recurses := true, plainKeys := false, apart := false, narrowed := true }
def FnLoopOutUptoSaid : Prop := fnLoopOutUptoRow.holds Try.pinned (OpenSpec.upto fnLoopOutSpec)

/-- 'laws.FnLoopBatch', WHERE WHAT IT READS IS OF BULK AT MOST 1048576: true; the input reads as it did. -/
def fnLoopBatchUptoRow : OpenClaim := { program := "ytopcofkpggefkaa", sum := "7bd9d43afd20a1ab2ef28c951073da0d4221fb6e222dd4c3ab8536d88dbb3d59", func := "loop.example/tideline/laws.FnLoopBatch", spec := "fnLoopBatch", inPlace := ["internal/reflectlite.ValueOf", "internal/reflectlite.Swapper", "(internal/reflectlite.Value).Len"], unfollowed := true, recurses := true, plainKeys := false, apart := false, narrowed := true }
def FnLoopBatchUptoSaid : Prop := fnLoopBatchUptoRow.holds Try.pinned (OpenSpec.upto fnLoopBatchSpec)

/-- 'laws.FnLoopRounds', WHERE WHAT IT READS IS OF BULK AT MOST 1048576: true; the input reads as it did. -/
def fnLoopRoundsUptoRow : OpenClaim := { program := "ytopcofkpggefkaa", sum := "7bd9d43afd20a1ab2ef28c951073da0d4221fb6e222dd4c3ab8536d88dbb3d59", func := "loop.example/tideline/laws.FnLoopRounds", spec := "fnLoopRounds", inPlace := ["internal/reflectlite.ValueOf", "internal/reflectlite.Swapper", "(internal/reflectlite.Value).Len"], unfollowed := true, recurses := true, plainKeys := false, apart := false, narrowed := true }
def FnLoopRoundsUptoSaid : Prop := fnLoopRoundsUptoRow.holds Try.pinned (OpenSpec.upto fnLoopRoundsSpec)

/-- 'laws.FnExactLoopFlow', WHERE WHAT IT READS IS OF BULK AT MOST 1048576: true; the input reads as it did. -/
def fnExactLoopFlowUptoRow : OpenClaim := { program := "ytopcofkpggefkaa", sum := "7bd9d43afd20a1ab2ef28c951073da0d4221fb6e222dd4c3ab8536d88dbb3d59", func := "loop.example/tideline/laws.FnExactLoopFlow", spec := "fnExactLoopFlow", inPlace := ["internal/reflectlite.ValueOf", "internal/reflectlite.Swapper", "(internal/reflectlite.Value).Len"], unfollowed := true, recurses := true, plainKeys := false, apart := false, narrowed := true }
def FnExactLoopFlowUptoSaid : Prop := fnExactLoopFlowUptoRow.holds Try.pinned (OpenSpec.upto fnExactLoopFlowSpec)

/-- 'laws.FnLoopFlow', WHERE WHAT IT READS IS OF BULK AT MOST 1048576: true; the input reads as it did. -/
def fnLoopFlowUptoRow : OpenClaim := { program := "ytopcofkpggefkaa", sum := "7bd9d43afd20a1ab2ef28c951073da0d4221fb6e222dd4c3ab8536d88dbb3d59", func := "loop.example/tideline/laws.FnLoopFlow", spec := "fnLoopFlow", inPlace := ["internal/reflectlite.ValueOf", "internal/reflectlite.Swapper", "(internal/reflectlite.Value).Len"], unfollowed := true, recurses := true, plainKeys := false, apart := false, narrowed := true }
def FnLoopFlowUptoSaid : Prop := fnLoopFlowUptoRow.holds Try.pinned (OpenSpec.upto fnLoopFlowSpec)

/-- 'laws.FnSessNew', WHERE WHAT IT READS IS OF BULK AT MOST 1048576: true; the input reads as it did. -/
def fnSessNewUptoRow : OpenClaim := { program := "ytopcofkpggefkaa", sum := "7bd9d43afd20a1ab2ef28c951073da0d4221fb6e222dd4c3ab8536d88dbb3d59", func := "loop.example/tideline/laws.FnSessNew", spec := "fnSessNew", inPlace := ["internal/reflectlite.ValueOf", "internal/reflectlite.Swapper", "(internal/reflectlite.Value).Len"], unfollowed := true, recurses := true, plainKeys := false, apart := false, narrowed := true }
def FnSessNewUptoSaid : Prop := fnSessNewUptoRow.holds Try.pinned (OpenSpec.upto fnSessNewSpec)

end Rows
end Go.Proofs.Ytopcofkpggefkaa
