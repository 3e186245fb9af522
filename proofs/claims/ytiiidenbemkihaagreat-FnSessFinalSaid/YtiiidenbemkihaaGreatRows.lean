/-
  No cell of these rows narrows 'for every input' (looked for: loops, veiled, ifaces, maps, wideKeys, modest, calm, conditions, laid).
  DERIVED. THE GIVEN ROWS OF THIS SEAT. 12 by the template 'for every input the law returns true; each argument reads behind the call as it read before'; 0 by the template 'total and deterministic' (their statements: YtiiidenbemkihaaGreatTotals.lean).
  GIVEN WITH THE SEED: the statements are not yours to turn. If you find one false, say at which input.
  Laid BY PROGRAM, IN A SANDBOX (cutbox-rows.mjs): the forced cells as the released guide's own fill.sh prints them over the translation c98b7010bf8f26ae… (all of the seat's roots in one cut). By AI agents, Wed Nov 11 2026. No macro, syntax, notation, axiom, sorry.
-/
import Derived.Test.YtiiidenbemkihaaGreatChecked
import GoSem.Claim
import GoSem.ClaimJoined
import GoSem.ClaimMapViews
import Derived.JoinedTies
import Derived.KernelRfl
namespace Go.Proofs.YtiiidenbemkihaaGreat
/- THE CELL 'sum', in the pinned program and in every row, IS THE sha256 OF THE DUMP (.gsa) THAT YtiiidenbemkihaaGreatProg.lean LOADS. Nothing in Lean hashes anything: it is a label: what it is worth is what the hold of that sum in a sandbox is worth. -/
noncomputable def Tryz.pinned : Pinned := { name := "ytiiidenbemkihaagreat", sum := "c98b7010bf8f26aee33571ab2f44ac95276c92570d1200c52aa66a0ee1a29ea3", checked := Tryz.checked }
namespace Rows
def none {H : Type} : Left H := { results := [], args := [] }

/-- 'laws.FnSessNot': WHATEVER THE INPUT: true; the input reads as it did. -/
def fnSessNotSpec : ChangeSpec := { name := "fnSessNot", fn := fun _ => fun
  | [d] => { results := [.lit (.bool true)], args := [d] }
  | _ => none }
def fnSessNotRow : OpenClaim := { program := "ytiiidenbemkihaagreat", sum := "c98b7010bf8f26aee33571ab2f44ac95276c92570d1200c52aa66a0ee1a29ea3", func := "loop.example/tideline/laws.FnSessNot", spec := "fnSessNot", inPlace := ["internal/reflectlite.ValueOf", "internal/reflectlite.Swapper", "(internal/reflectlite.Value).Len"], unfollowed := true, recurses := true, plainKeys := false, apart := false }
def FnSessNotSaid : Prop := fnSessNotRow.holds Tryz.pinned (OpenSpec.ofChange fnSessNotSpec)

/-- ITS FALSE NEIGHBOUR: 'it returns false'. Refute it at one input. -/
def fnSessNotWrong : ChangeSpec := { name := "fnSessNot", fn := fun _ => fun
  | [d] => { results := [.lit (.bool false)], args := [d] }
  | _ => none }
def FnSessNotWrongFalsely : Prop := fnSessNotRow.holds Tryz.pinned (OpenSpec.ofChange fnSessNotWrong)

/-- 'laws.FnSessOnNew': WHATEVER THE INPUT: true; the input reads as it did. -/
def fnSessOnNewSpec : ChangeSpec := { name := "fnSessOnNew", fn := fun _ => fun
  | [d] => { results := [.lit (.bool true)], args := [d] }
  | _ => none }
def fnSessOnNewRow : OpenClaim := { program := "ytiiidenbemkihaagreat", sum := "c98b7010bf8f26aee33571ab2f44ac95276c92570d1200c52aa66a0ee1a29ea3", func := "loop.example/tideline/laws.FnSessOnNew", spec := "fnSessOnNew", inPlace := ["internal/reflectlite.ValueOf", "internal/reflectlite.Swapper", "(internal/reflectlite.Value).Len"], unfollowed := true, recurses := true, plainKeys := false, apart := false }
def FnSessOnNewSaid : Prop := fnSessOnNewRow.holds Tryz.pinned (OpenSpec.ofChange fnSessOnNewSpec)

/-- ITS FALSE NEIGHBOUR: 'it returns false'. Refute it at one input. -/
def fnSessOnNewWrong : ChangeSpec := { name := "fnSessOnNew", fn := fun _ => fun
  | [d] => { results := [.lit (.bool false)], args := [d] }
  | _ => none }
def FnSessOnNewWrongFalsely : Prop := fnSessOnNewRow.holds Tryz.pinned (OpenSpec.ofChange fnSessOnNewWrong)

/-- 'laws.FnSessEnd': WHATEVER THE INPUT: true; the input reads as it did. -/
def fnSessEndSpec : ChangeSpec := { name := "fnSessEnd", fn := fun _ => fun
  | [d] => { results := [.lit (.bool true)], args := [d] }
  | _ => none }
def fnSessEndRow : OpenClaim := { program := "ytiiidenbemkihaagreat", sum := "c98b7010bf8f26aee33571ab2f44ac95276c92570d1200c52aa66a0ee1a29ea3", func := "loop.example/tideline/laws.FnSessEnd", spec := "fnSessEnd", inPlace := ["internal/reflectlite.ValueOf", "internal/reflectlite.Swapper", "(internal/reflectlite.Value).Len"], unfollowed := true, recurses := true, plainKeys := false, apart := false }
def FnSessEndSaid : Prop := fnSessEndRow.holds Tryz.pinned (OpenSpec.ofChange fnSessEndSpec)

/-- ITS FALSE NEIGHBOUR: 'it returns false'. Refute it at one input. -/
def fnSessEndWrong : ChangeSpec := { name := "fnSessEnd", fn := fun _ => fun
  | [d] => { results := [.lit (.bool false)], args := [d] }
  | _ => none }
def FnSessEndWrongFalsely : Prop := fnSessEndRow.holds Tryz.pinned (OpenSpec.ofChange fnSessEndWrong)

/-- 'laws.FnSessBack': WHATEVER THE INPUT: true; the input reads as it did. -/
def fnSessBackSpec : ChangeSpec := { name := "fnSessBack", fn := fun _ => fun
  | [d] => { results := [.lit (.bool true)], args := [d] }
  | _ => none }
def fnSessBackRow : OpenClaim := { program := "ytiiidenbemkihaagreat", sum := "c98b7010bf8f26aee33571ab2f44ac95276c92570d1200c52aa66a0ee1a29ea3", func := "loop.example/tideline/laws.FnSessBack", spec := "fnSessBack", inPlace := ["internal/reflectlite.ValueOf", "internal/reflectlite.Swapper", "(internal/reflectlite.Value).Len"], unfollowed := true, recurses := true, plainKeys := false, apart := false }
def FnSessBackSaid : Prop := fnSessBackRow.holds Tryz.pinned (OpenSpec.ofChange fnSessBackSpec)

/-- ITS FALSE NEIGHBOUR: 'it returns false'. Refute it at one input. -/
def fnSessBackWrong : ChangeSpec := { name := "fnSessBack", fn := fun _ => fun
  | [d] => { results := [.lit (.bool false)], args := [d] }
  | _ => none }
def FnSessBackWrongFalsely : Prop := fnSessBackRow.holds Tryz.pinned (OpenSpec.ofChange fnSessBackWrong)

/-- 'laws.FnSessTwo': WHATEVER THE INPUT: true; the input reads as it did. -/
def fnSessTwoSpec : ChangeSpec := { name := "fnSessTwo", fn := fun _ => fun
  | [d1, d2] => { results := [.lit (.bool true)], args := [d1, d2] }
  | _ => none }
def fnSessTwoRow : OpenClaim := { program := "ytiiidenbemkihaagreat", sum := "c98b7010bf8f26aee33571ab2f44ac95276c92570d1200c52aa66a0ee1a29ea3", func := "loop.example/tideline/laws.FnSessTwo", spec := "fnSessTwo", inPlace := ["internal/reflectlite.ValueOf", "internal/reflectlite.Swapper", "(internal/reflectlite.Value).Len"], unfollowed := true, recurses := true, plainKeys := false, apart := false }
def FnSessTwoSaid : Prop := fnSessTwoRow.holds Tryz.pinned (OpenSpec.ofChange fnSessTwoSpec)

/-- ITS FALSE NEIGHBOUR: 'it returns false'. Refute it at one input. -/
def fnSessTwoWrong : ChangeSpec := { name := "fnSessTwo", fn := fun _ => fun
  | [d1, d2] => { results := [.lit (.bool false)], args := [d1, d2] }
  | _ => none }
def FnSessTwoWrongFalsely : Prop := fnSessTwoRow.holds Tryz.pinned (OpenSpec.ofChange fnSessTwoWrong)

/-- 'laws.FnSessOn': WHATEVER THE INPUT: true; the input reads as it did. -/
def fnSessOnSpec : ChangeSpec := { name := "fnSessOn", fn := fun _ => fun
  | [d] => { results := [.lit (.bool true)], args := [d] }
  | _ => none }
def fnSessOnRow : OpenClaim := { program := "ytiiidenbemkihaagreat", sum := "c98b7010bf8f26aee33571ab2f44ac95276c92570d1200c52aa66a0ee1a29ea3", func := "loop.example/tideline/laws.FnSessOn", spec := "fnSessOn", inPlace := ["internal/reflectlite.ValueOf", "internal/reflectlite.Swapper", "(internal/reflectlite.Value).Len"], unfollowed := true, recurses := true, plainKeys := false, apart := false }
def FnSessOnSaid : Prop := fnSessOnRow.holds Tryz.pinned (OpenSpec.ofChange fnSessOnSpec)

/-- ITS FALSE NEIGHBOUR: 'it returns false'. Refute it at one input. -/
def fnSessOnWrong : ChangeSpec := { name := "fnSessOn", fn := fun _ => fun
  | [d] => { results := [.lit (.bool false)], args := [d] }
  | _ => none }
def FnSessOnWrongFalsely : Prop := fnSessOnRow.holds Tryz.pinned (OpenSpec.ofChange fnSessOnWrong)

/-- 'laws.FnSessLate': WHATEVER THE INPUT: true; the input reads as it did. -/
def fnSessLateSpec : ChangeSpec := { name := "fnSessLate", fn := fun _ => fun
  | [d] => { results := [.lit (.bool true)], args := [d] }
  | _ => none }
def fnSessLateRow : OpenClaim := { program := "ytiiidenbemkihaagreat", sum := "c98b7010bf8f26aee33571ab2f44ac95276c92570d1200c52aa66a0ee1a29ea3", func := "loop.example/tideline/laws.FnSessLate", spec := "fnSessLate", inPlace := ["internal/reflectlite.ValueOf", "internal/reflectlite.Swapper", "(internal/reflectlite.Value).Len"], unfollowed := true, recurses := true, plainKeys := false, apart := false }
def FnSessLateSaid : Prop := fnSessLateRow.holds Tryz.pinned (OpenSpec.ofChange fnSessLateSpec)

/-- ITS FALSE NEIGHBOUR: 'it returns false'. Refute it at one input. -/
def fnSessLateWrong : ChangeSpec := { name := "fnSessLate", fn := fun _ => fun
  | [d] => { results := [.lit (.bool false)], args := [d] }
  | _ => none }
def FnSessLateWrongFalsely : Prop := fnSessLateRow.holds Tryz.pinned (OpenSpec.ofChange fnSessLateWrong)

/-- 'laws.FnSessIn': WHATEVER THE INPUT: true; the input reads as it did. -/
def fnSessInSpec : ChangeSpec := { name := "fnSessIn", fn := fun _ => fun
  | [d] => { results := [.lit (.bool true)], args := [d] }
  | _ => none }
def fnSessInRow : OpenClaim := { program := "ytiiidenbemkihaagreat", sum := "c98b7010bf8f26aee33571ab2f44ac95276c92570d1200c52aa66a0ee1a29ea3", func := "loop.example/tideline/laws.FnSessIn", spec := "fnSessIn", inPlace := ["internal/reflectlite.ValueOf", "internal/reflectlite.Swapper", "(internal/reflectlite.Value).Len"], unfollowed := true, recurses := true, plainKeys := false, apart := false }
def FnSessInSaid : Prop := fnSessInRow.holds Tryz.pinned (OpenSpec.ofChange fnSessInSpec)

/-- ITS FALSE NEIGHBOUR: 'it returns false'. Refute it at one input. -/
def fnSessInWrong : ChangeSpec := { name := "fnSessIn", fn := fun _ => fun
  | [d] => { results := [.lit (.bool false)], args := [d] }
  | _ => none }
def FnSessInWrongFalsely : Prop := fnSessInRow.holds Tryz.pinned (OpenSpec.ofChange fnSessInWrong)

/-- 'laws.FnSessOk': WHATEVER THE INPUT: true; the input reads as it did. -/
def fnSessOkSpec : ChangeSpec := { name := "fnSessOk", fn := fun _ => fun
  | [d1, d2] => { results := [.lit (.bool true)], args := [d1, d2] }
  | _ => none }
def fnSessOkRow : OpenClaim := { program := "ytiiidenbemkihaagreat", sum := "c98b7010bf8f26aee33571ab2f44ac95276c92570d1200c52aa66a0ee1a29ea3", func := "loop.example/tideline/laws.FnSessOk", spec := "fnSessOk", inPlace := ["internal/reflectlite.ValueOf", "internal/reflectlite.Swapper", "(internal/reflectlite.Value).Len"], unfollowed := true, recurses := true, plainKeys := false, apart := false }
def FnSessOkSaid : Prop := fnSessOkRow.holds Tryz.pinned (OpenSpec.ofChange fnSessOkSpec)

/-- ITS FALSE NEIGHBOUR: 'it returns false'. Refute it at one input. -/
def fnSessOkWrong : ChangeSpec := { name := "fnSessOk", fn := fun _ => fun
  | [d1, d2] => { results := [.lit (.bool false)], args := [d1, d2] }
  | _ => none }
def FnSessOkWrongFalsely : Prop := fnSessOkRow.holds Tryz.pinned (OpenSpec.ofChange fnSessOkWrong)

/-- 'laws.FnSessTop': WHATEVER THE INPUT: true; the input reads as it did. -/
def fnSessTopSpec : ChangeSpec := { name := "fnSessTop", fn := fun _ => fun
  | [d] => { results := [.lit (.bool true)], args := [d] }
  | _ => none }
def fnSessTopRow : OpenClaim := { program := "ytiiidenbemkihaagreat", sum := "c98b7010bf8f26aee33571ab2f44ac95276c92570d1200c52aa66a0ee1a29ea3", func := "loop.example/tideline/laws.FnSessTop", spec := "fnSessTop", inPlace := ["internal/reflectlite.ValueOf", "internal/reflectlite.Swapper", "(internal/reflectlite.Value).Len"], unfollowed := true, recurses := true, plainKeys := false, apart := false }
def FnSessTopSaid : Prop := fnSessTopRow.holds Tryz.pinned (OpenSpec.ofChange fnSessTopSpec)

/-- ITS FALSE NEIGHBOUR: 'it returns false'. Refute it at one input. -/
def fnSessTopWrong : ChangeSpec := { name := "fnSessTop", fn := fun _ => fun
  | [d] => { results := [.lit (.bool false)], args := [d] }
  | _ => none }
def FnSessTopWrongFalsely : Prop := fnSessTopRow.holds Tryz.pinned (OpenSpec.ofChange fnSessTopWrong)

/-- 'laws.FnSessSteps': WHATEVER THE INPUT: true; the input reads as it did. -/
def fnSessStepsSpec : ChangeSpec := { name := "fnSessSteps", fn := fun _ => fun
  | [d1, d2] => { results := [.lit (.bool true)], args := [d1, d2] }
  | _ => none }
def fnSessStepsRow : OpenClaim := { program := "ytiiidenbemkihaagreat", sum := "c98b7010bf8f26aee33571ab2f44ac95276c92570d1200c52aa66a0ee1a29ea3", func := "loop.example/tideline/laws.FnSessSteps", spec := "fnSessSteps", inPlace := ["internal/reflectlite.ValueOf", "internal/reflectlite.Swapper", "(internal/reflectlite.Value).Len"], unfollowed := true, recurses := true, plainKeys := false, apart := false }
def FnSessStepsSaid : Prop := fnSessStepsRow.holds Tryz.pinned (OpenSpec.ofChange fnSessStepsSpec)

/-- ITS FALSE NEIGHBOUR: 'it returns false'. Refute it at one input. -/
def fnSessStepsWrong : ChangeSpec := { name := "fnSessSteps", fn := fun _ => fun
  | [d1, d2] => { results := [.lit (.bool false)], args := [d1, d2] }
  | _ => none }
def FnSessStepsWrongFalsely : Prop := fnSessStepsRow.holds Tryz.pinned (OpenSpec.ofChange fnSessStepsWrong)

/-- 'laws.FnSessFinal': WHATEVER THE INPUT: true; the input reads as it did. -/
def fnSessFinalSpec : ChangeSpec := { name := "fnSessFinal", fn := fun _ => fun
  | [d1, d2] => { results := [.lit (.bool true)], args := [d1, d2] }
  | _ => none }
def fnSessFinalRow : OpenClaim := { program := "ytiiidenbemkihaagreat", sum := "c98b7010bf8f26aee33571ab2f44ac95276c92570d1200c52aa66a0ee1a29ea3", func := "loop.example/tideline/laws.FnSessFinal", spec := "fnSessFinal", inPlace := ["internal/reflectlite.ValueOf", "internal/reflectlite.Swapper", "(internal/reflectlite.Value).Len"], unfollowed := true, recurses := true, plainKeys := false, apart := false }
def FnSessFinalSaid : Prop := fnSessFinalRow.holds Tryz.pinned (OpenSpec.ofChange fnSessFinalSpec)

/-- ITS FALSE NEIGHBOUR: 'it returns false'. Refute it at one input. -/
def fnSessFinalWrong : ChangeSpec := { name := "fnSessFinal", fn := fun _ => fun
  | [d1, d2] => { results := [.lit (.bool false)], args := [d1, d2] }
  | _ => none }
def FnSessFinalWrongFalsely : Prop := fnSessFinalRow.holds Tryz.pinned (OpenSpec.ofChange fnSessFinalWrong)

/- THE SECOND FORM. 'bulk': how many values and letters a reading holds, each counted each time it is reached (what is shared counts as often as it is met; a slice's spare places count too). A statement '..UptoSaid' is the law's where the arguments, and the package variables that the reading takes, are together of bulk at most 1048576: NARROWER than '..Said'. Prove '..Said' where nothing that the law and all that it calls make is longer than what came in: it says more and counts as full. Else prove '..UptoSaid'. A law counts once. -/
mutual
def uptoBulk {H : Type} : DataW H → Nat
  | .lit (.string bytes) => bytes.length + 1
  | .lit _ => 1
  | .nil => 1
  | .ptr d => uptoBulk d + 1
  | .slice elems spare => uptoBulkAll elems + uptoBulkAll spare + 1
  | .agg parts => uptoBulkAll parts + 1
  | .iface _ d => uptoBulk d + 1
  | .map entries => uptoBulkEntries entries + 1
  | .held _ => 1
def uptoBulkAll {H : Type} : List (DataW H) → Nat
  | [] => 0
  | d :: r => uptoBulk d + uptoBulkAll r
def uptoBulkEntries {H : Type} : List (Lit × DataW H) → Nat
  | [] => 0
  | x :: r => uptoBulkEntry x + uptoBulkEntries r
def uptoBulkEntry {H : Type} : Lit × DataW H → Nat
  | (.string bytes, d) => bytes.length + uptoBulk d + 1
  | (_, d) => uptoBulk d + 1
 end
def uptoSmall : (H : Type) → List (DataW H) → Bool := fun _ ds => decide (uptoBulkAll ds ≤ 1048576)
def OpenSpec.upto (s : _root_.Go.ChangeSpec) : _root_.Go.OpenSpec := { _root_.Go.OpenSpec.ofChange s with cond := some uptoSmall }

/-- 'laws.FnSessNot', WHERE WHAT IT READS IS OF BULK AT MOST 1048576: true; the input reads as it did. -/
def fnSessNotUptoRow : OpenClaim := { program := "ytiiidenbemkihaagreat", sum := "c98b7010bf8f26aee33571ab2f44ac95276c92570d1200c52aa66a0ee1a29ea3", func := "loop.example/tideline/laws.FnSessNot", spec := "fnSessNot", inPlace := ["internal/reflectlite.ValueOf", "internal/reflectlite.Swapper", "(internal/reflectlite.Value).Len"], unfollowed := true, recurses := true, plainKeys := false, apart := false, narrowed := true }
def FnSessNotUptoSaid : Prop := fnSessNotUptoRow.holds Tryz.pinned (OpenSpec.upto fnSessNotSpec)

/-- 'laws.FnSessOnNew', WHERE WHAT IT READS IS OF BULK AT MOST 1048576: true; the input reads as it did. -/
def fnSessOnNewUptoRow : OpenClaim := { program := "ytiiidenbemkihaagreat", sum := "c98b7010bf8f26aee33571ab2f44ac95276c92570d1200c52aa66a0ee1a29ea3", func := "loop.example/tideline/laws.FnSessOnNew", spec := "fnSessOnNew", inPlace := ["internal/reflectlite.ValueOf", "internal/reflectlite.Swapper", "(internal/reflectlite.Value).Len"], unfollowed := true, recurses := true, plainKeys := false, apart := false, narrowed := true }
def FnSessOnNewUptoSaid : Prop := fnSessOnNewUptoRow.holds Tryz.pinned (OpenSpec.upto fnSessOnNewSpec)

/-- 'laws.FnSessEnd', WHERE WHAT IT READS IS OF BULK AT MOST 1048576: true; the input reads as it did. -/
def fnSessEndUptoRow : OpenClaim := { program := "ytiiidenbemkihaagreat", sum := "c98b7010bf8f26aee33571ab2f44ac95276c92570d1200c52aa66a0ee1a29ea3", func := "loop.example/tideline/laws.FnSessEnd", spec := "fnSessEnd", inPlace := ["internal/reflectlite.ValueOf", "internal/reflectlite.Swapper", "(internal/reflectlite.Value).Len"], unfollowed := true, recurses := true, plainKeys := false, apart := false, narrowed := true }
def FnSessEndUptoSaid : Prop := fnSessEndUptoRow.holds Tryz.pinned (OpenSpec.upto fnSessEndSpec)

/-- 'laws.FnSessBack', WHERE WHAT IT READS IS OF BULK AT MOST 1048576: true; the input reads as it did. -/
def fnSessBackUptoRow : OpenClaim := { program := "ytiiidenbemkihaagreat", sum := "c98b7010bf8f26aee33571ab2f44ac95276c92570d1200c52aa66a0ee1a29ea3", func := "loop.example/tideline/laws.FnSessBack", spec := "fnSessBack", inPlace := ["internal/reflectlite.ValueOf", "internal/reflectlite.Swapper", "(internal/reflectlite.Value).Len"], unfollowed := true, recurses := true, plainKeys := false, apart := false, narrowed := true }
def FnSessBackUptoSaid : Prop := fnSessBackUptoRow.holds Tryz.pinned (OpenSpec.upto fnSessBackSpec)

/-- 'laws.FnSessTwo', WHERE WHAT IT READS IS OF BULK AT MOST 1048576: true; the input reads as it did. -/
def fnSessTwoUptoRow : OpenClaim := { program := "ytiiidenbemkihaagreat", sum := "c98b7010bf8f26aee33571ab2f44ac95276c92570d1200c52aa66a0ee1a29ea3", func := "loop.example/tideline/laws.FnSessTwo", spec := "fnSessTwo", inPlace := ["internal/reflectlite.ValueOf", "internal/reflectlite.Swapper", "(internal/reflectlite.Value).Len"], unfollowed := true, recurses := true, plainKeys := false, apart := false, narrowed := true }
def FnSessTwoUptoSaid : Prop := fnSessTwoUptoRow.holds Tryz.pinned (OpenSpec.upto fnSessTwoSpec)

/-- 'laws.FnSessOn', WHERE WHAT IT READS IS OF BULK AT MOST 1048576: true; the input reads as it did. -/
def fnSessOnUptoRow : OpenClaim := { program := "ytiiidenbemkihaagreat", sum := "c98b7010bf8f26aee33571ab2f44ac95276c92570d1200c52aa66a0ee1a29ea3", func := "loop.example/tideline/laws.FnSessOn", spec := "fnSessOn", inPlace := ["internal/reflectlite.ValueOf", "internal/reflectlite.Swapper", "(internal/reflectlite.Value).Len"], unfollowed := true, recurses := true, plainKeys := false, apart := false, narrowed := true }
def FnSessOnUptoSaid : Prop := fnSessOnUptoRow.holds Tryz.pinned (OpenSpec.upto fnSessOnSpec)

/-- 'laws.FnSessLate', WHERE WHAT IT READS IS OF BULK AT MOST 1048576: true; the input reads as it did. -/
def fnSessLateUptoRow : OpenClaim := { program := "ytiiidenbemkihaagreat", sum := "c98b7010bf8f26aee33571ab2f44ac95276c92570d1200c52aa66a0ee1a29ea3", func := "loop.example/tideline/laws.FnSessLate", spec := "fnSessLate", inPlace := ["internal/reflectlite.ValueOf", "internal/reflectlite.Swapper", "(internal/reflectlite.Value).Len"], unfollowed := true, recurses := true, plainKeys := false, apart := false, narrowed := true }
def FnSessLateUptoSaid : Prop := fnSessLateUptoRow.holds Tryz.pinned (OpenSpec.upto fnSessLateSpec)

/-- 'laws.FnSessIn', WHERE WHAT IT READS IS OF BULK AT MOST 1048576: true; the input reads as it did. -/
def fnSessInUptoRow : OpenClaim := { program := "ytiiidenbemkihaagreat", sum := "c98b7010bf8f26aee33571ab2f44ac95276c92570d1200c52aa66a0ee1a29ea3", func := "loop.example/tideline/laws.FnSessIn", spec := "fnSessIn", inPlace := ["internal/reflectlite.ValueOf", "internal/reflectlite.Swapper", "(internal/reflectlite.Value).Len"], unfollowed := true, recurses := true, plainKeys := false, apart := false, narrowed := true }
def FnSessInUptoSaid : Prop := fnSessInUptoRow.holds Tryz.pinned (OpenSpec.upto fnSessInSpec)

/-- 'laws.FnSessOk', WHERE WHAT IT READS IS OF BULK AT MOST 1048576: true; the input reads as it did. -/
def fnSessOkUptoRow : OpenClaim := { program := "ytiiidenbemkihaagreat", sum := "c98b7010bf8f26aee33571ab2f44ac95276c92570d1200c52aa66a0ee1a29ea3", func := "loop.example/tideline/laws.FnSessOk", spec := "fnSessOk", inPlace := ["internal/reflectlite.ValueOf", "internal/reflectlite.Swapper", "(internal/reflectlite.Value).Len"], unfollowed := true, recurses := true, plainKeys := false, apart := false, narrowed := true }
def FnSessOkUptoSaid : Prop := fnSessOkUptoRow.holds Tryz.pinned (OpenSpec.upto fnSessOkSpec)

/-- 'laws.FnSessTop', WHERE WHAT IT READS IS OF BULK AT MOST 1048576: true; the input reads as it did. -/
def fnSessTopUptoRow : OpenClaim := { program := "ytiiidenbemkihaagreat", sum := "c98b7010bf8f26aee33571ab2f44ac95276c92570d1200c52aa66a0ee1a29ea3", func := "loop.example/tideline/laws.FnSessTop", spec := "fnSessTop", inPlace := ["internal/reflectlite.ValueOf", "internal/reflectlite.Swapper", "(internal/reflectlite.Value).Len"], unfollowed := true, recurses := true, plainKeys := false, apart := false, narrowed := true }
def FnSessTopUptoSaid : Prop := fnSessTopUptoRow.holds Tryz.pinned (OpenSpec.upto fnSessTopSpec)

/-- 'laws.FnSessSteps', WHERE WHAT IT READS IS OF BULK AT MOST 1048576: true; the input reads as it did. -/
def fnSessStepsUptoRow : OpenClaim := { program := "ytiiidenbemkihaagreat", sum := "c98b7010bf8f26aee33571ab2f44ac95276c92570d1200c52aa66a0ee1a29ea3", func := "loop.example/tideline/laws.FnSessSteps", spec := "fnSessSteps", inPlace := ["internal/reflectlite.ValueOf", "internal/reflectlite.Swapper", "(internal/reflectlite.Value).Len"], unfollowed := true, recurses := true, plainKeys := false, apart := false, narrowed := true }
def FnSessStepsUptoSaid : Prop := fnSessStepsUptoRow.holds Tryz.pinned (OpenSpec.upto fnSessStepsSpec)

/-- 'laws.FnSessFinal', WHERE WHAT IT READS IS OF BULK AT MOST 1048576: true; the input reads as it did. -/
def fnSessFinalUptoRow : OpenClaim := { program := "ytiiidenbemkihaagreat", sum := "c98b7010bf8f26aee33571ab2f44ac95276c92570d1200c52aa66a0ee1a29ea3", func := "loop.example/tideline/laws.FnSessFinal", spec := "fnSessFinal", inPlace := ["internal/reflectlite.ValueOf", "internal/reflectlite.Swapper", "(internal/reflectlite.Value).Len"], unfollowed := true, recurses := true, plainKeys := false, apart := false, narrowed := true }
def FnSessFinalUptoSaid : Prop := fnSessFinalUptoRow.holds Tryz.pinned (OpenSpec.upto fnSessFinalSpec)

end Rows
end Go.Proofs.YtiiidenbemkihaaGreat
