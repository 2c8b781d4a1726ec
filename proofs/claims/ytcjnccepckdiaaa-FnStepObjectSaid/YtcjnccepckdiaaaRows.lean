/-
  No cell of these rows narrows 'for every input' (looked for: loops, veiled, ifaces, maps, wideKeys, modest, calm, conditions, laid).
  DERIVED. THE GIVEN ROWS OF THIS SEAT. 12 by the template 'for every input the law returns true; each argument reads behind the call as it read before'; 0 by the template 'total and deterministic' (their statements: YtcjnccepckdiaaaTotals.lean).
  GIVEN WITH THE SEED: the statements are not yours to turn. If you find one false, say at which input.
  Laid BY PROGRAM, IN A SANDBOX (cutbox-rows.mjs): the forced cells as the released guide's own fill.sh prints them over the translation 4566e6799d185132… (all of the seat's roots in one cut). By AI agents, Wed Nov 11 2026. No macro, syntax, notation, axiom, sorry.
-/
import Derived.Test.YtcjnccepckdiaaaChecked
import GoSem.Claim
import GoSem.ClaimJoined
import GoSem.ClaimMapViews
import Derived.JoinedTies
import Derived.KernelRfl
namespace Go.Proofs.Ytcjnccepckdiaaa
/- THE CELL 'sum', in the pinned program and in every row, IS THE sha256 OF THE DUMP (.gsa) THAT YtcjnccepckdiaaaProg.lean LOADS. Nothing in Lean hashes anything: it is a label: what it is worth is what the hold of that sum in a sandbox is worth. -/
noncomputable def Try.pinned : Pinned := { name := "ytcjnccepckdiaaa", sum := "4566e6799d185132dabd767812f3d9fa1cf248dec3967ec9c404b20b62aee960", checked := Try.checked }
namespace Rows
def none {H : Type} : Left H := { results := [], args := [] }

/-- 'laws.FnIsOneWriter': WHATEVER THE INPUT: true; the input reads as it did. -/
def fnIsOneWriterSpec : ChangeSpec := { name := "fnIsOneWriter", fn := fun _ => fun
  | [d] => { results := [.lit (.bool true)], args := [d] }
  | _ => none }
def fnIsOneWriterRow : OpenClaim := { program := "ytcjnccepckdiaaa", sum := "4566e6799d185132dabd767812f3d9fa1cf248dec3967ec9c404b20b62aee960", func := "loop.example/witnessorders/laws.FnIsOneWriter", spec := "fnIsOneWriter", apart := false }
def FnIsOneWriterSaid : Prop := fnIsOneWriterRow.holds Try.pinned (OpenSpec.ofChange fnIsOneWriterSpec)

/-- ITS FALSE NEIGHBOUR: 'it returns false'. Refute it at one input. -/
def fnIsOneWriterWrong : ChangeSpec := { name := "fnIsOneWriter", fn := fun _ => fun
  | [d] => { results := [.lit (.bool false)], args := [d] }
  | _ => none }
def FnIsOneWriterWrongFalsely : Prop := fnIsOneWriterRow.holds Try.pinned (OpenSpec.ofChange fnIsOneWriterWrong)

/-- 'laws.FnStepObject': WHATEVER THE INPUT: true; the input reads as it did. -/
def fnStepObjectSpec : ChangeSpec := { name := "fnStepObject", fn := fun _ => fun
  | [d] => { results := [.lit (.bool true)], args := [d] }
  | _ => none }
def fnStepObjectRow : OpenClaim := { program := "ytcjnccepckdiaaa", sum := "4566e6799d185132dabd767812f3d9fa1cf248dec3967ec9c404b20b62aee960", func := "loop.example/witnessorders/laws.FnStepObject", spec := "fnStepObject", apart := false }
def FnStepObjectSaid : Prop := fnStepObjectRow.holds Try.pinned (OpenSpec.ofChange fnStepObjectSpec)

/-- ITS FALSE NEIGHBOUR: 'it returns false'. Refute it at one input. -/
def fnStepObjectWrong : ChangeSpec := { name := "fnStepObject", fn := fun _ => fun
  | [d] => { results := [.lit (.bool false)], args := [d] }
  | _ => none }
def FnStepObjectWrongFalsely : Prop := fnStepObjectRow.holds Try.pinned (OpenSpec.ofChange fnStepObjectWrong)

/-- 'laws.FnMarkedCuts': WHATEVER THE INPUT: true; the input reads as it did. -/
def fnMarkedCutsSpec : ChangeSpec := { name := "fnMarkedCuts", fn := fun _ => fun
  | [d] => { results := [.lit (.bool true)], args := [d] }
  | _ => none }
def fnMarkedCutsRow : OpenClaim := { program := "ytcjnccepckdiaaa", sum := "4566e6799d185132dabd767812f3d9fa1cf248dec3967ec9c404b20b62aee960", func := "loop.example/witnessorders/laws.FnMarkedCuts", spec := "fnMarkedCuts", unfollowed := true, recurses := true, apart := false }
def FnMarkedCutsSaid : Prop := fnMarkedCutsRow.holds Try.pinned (OpenSpec.ofChange fnMarkedCutsSpec)

/-- ITS FALSE NEIGHBOUR: 'it returns false'. Refute it at one input. -/
def fnMarkedCutsWrong : ChangeSpec := { name := "fnMarkedCuts", fn := fun _ => fun
  | [d] => { results := [.lit (.bool false)], args := [d] }
  | _ => none }
def FnMarkedCutsWrongFalsely : Prop := fnMarkedCutsRow.holds Try.pinned (OpenSpec.ofChange fnMarkedCutsWrong)

/-- 'laws.FnWidthOf': WHATEVER THE INPUT: true; the input reads as it did. -/
def fnWidthOfSpec : ChangeSpec := { name := "fnWidthOf", fn := fun _ => fun
  | [d] => { results := [.lit (.bool true)], args := [d] }
  | _ => none }
def fnWidthOfRow : OpenClaim := { program := "ytcjnccepckdiaaa", sum := "4566e6799d185132dabd767812f3d9fa1cf248dec3967ec9c404b20b62aee960", func := "loop.example/witnessorders/laws.FnWidthOf", spec := "fnWidthOf", apart := false }
def FnWidthOfSaid : Prop := fnWidthOfRow.holds Try.pinned (OpenSpec.ofChange fnWidthOfSpec)

/-- ITS FALSE NEIGHBOUR: 'it returns false'. Refute it at one input. -/
def fnWidthOfWrong : ChangeSpec := { name := "fnWidthOf", fn := fun _ => fun
  | [d] => { results := [.lit (.bool false)], args := [d] }
  | _ => none }
def FnWidthOfWrongFalsely : Prop := fnWidthOfRow.holds Try.pinned (OpenSpec.ofChange fnWidthOfWrong)

/-- 'laws.FnIsSure': WHATEVER THE INPUT: true; the input reads as it did. -/
def fnIsSureSpec : ChangeSpec := { name := "fnIsSure", fn := fun _ => fun
  | [d] => { results := [.lit (.bool true)], args := [d] }
  | _ => none }
def fnIsSureRow : OpenClaim := { program := "ytcjnccepckdiaaa", sum := "4566e6799d185132dabd767812f3d9fa1cf248dec3967ec9c404b20b62aee960", func := "loop.example/witnessorders/laws.FnIsSure", spec := "fnIsSure", unfollowed := true, recurses := true, apart := false }
def FnIsSureSaid : Prop := fnIsSureRow.holds Try.pinned (OpenSpec.ofChange fnIsSureSpec)

/-- ITS FALSE NEIGHBOUR: 'it returns false'. Refute it at one input. -/
def fnIsSureWrong : ChangeSpec := { name := "fnIsSure", fn := fun _ => fun
  | [d] => { results := [.lit (.bool false)], args := [d] }
  | _ => none }
def FnIsSureWrongFalsely : Prop := fnIsSureRow.holds Try.pinned (OpenSpec.ofChange fnIsSureWrong)

/-- 'laws.FnAheadOf': WHATEVER THE INPUT: true; the input reads as it did. -/
def fnAheadOfSpec : ChangeSpec := { name := "fnAheadOf", fn := fun _ => fun
  | [d] => { results := [.lit (.bool true)], args := [d] }
  | _ => none }
def fnAheadOfRow : OpenClaim := { program := "ytcjnccepckdiaaa", sum := "4566e6799d185132dabd767812f3d9fa1cf248dec3967ec9c404b20b62aee960", func := "loop.example/witnessorders/laws.FnAheadOf", spec := "fnAheadOf", unfollowed := true, recurses := true, apart := false }
def FnAheadOfSaid : Prop := fnAheadOfRow.holds Try.pinned (OpenSpec.ofChange fnAheadOfSpec)

/-- ITS FALSE NEIGHBOUR: 'it returns false'. Refute it at one input. -/
def fnAheadOfWrong : ChangeSpec := { name := "fnAheadOf", fn := fun _ => fun
  | [d] => { results := [.lit (.bool false)], args := [d] }
  | _ => none }
def FnAheadOfWrongFalsely : Prop := fnAheadOfRow.holds Try.pinned (OpenSpec.ofChange fnAheadOfWrong)

/-- 'laws.FnOwnAhead': WHATEVER THE INPUT: true; the input reads as it did. -/
def fnOwnAheadSpec : ChangeSpec := { name := "fnOwnAhead", fn := fun _ => fun
  | [d] => { results := [.lit (.bool true)], args := [d] }
  | _ => none }
def fnOwnAheadRow : OpenClaim := { program := "ytcjnccepckdiaaa", sum := "4566e6799d185132dabd767812f3d9fa1cf248dec3967ec9c404b20b62aee960", func := "loop.example/witnessorders/laws.FnOwnAhead", spec := "fnOwnAhead", unfollowed := true, recurses := true, apart := false }
def FnOwnAheadSaid : Prop := fnOwnAheadRow.holds Try.pinned (OpenSpec.ofChange fnOwnAheadSpec)

/-- ITS FALSE NEIGHBOUR: 'it returns false'. Refute it at one input. -/
def fnOwnAheadWrong : ChangeSpec := { name := "fnOwnAhead", fn := fun _ => fun
  | [d] => { results := [.lit (.bool false)], args := [d] }
  | _ => none }
def FnOwnAheadWrongFalsely : Prop := fnOwnAheadRow.holds Try.pinned (OpenSpec.ofChange fnOwnAheadWrong)

/-- 'laws.FnLevelsOf': WHATEVER THE INPUT: true; the input reads as it did. -/
def fnLevelsOfSpec : ChangeSpec := { name := "fnLevelsOf", fn := fun _ => fun
  | [d] => { results := [.lit (.bool true)], args := [d] }
  | _ => none }
def fnLevelsOfRow : OpenClaim := { program := "ytcjnccepckdiaaa", sum := "4566e6799d185132dabd767812f3d9fa1cf248dec3967ec9c404b20b62aee960", func := "loop.example/witnessorders/laws.FnLevelsOf", spec := "fnLevelsOf", unfollowed := true, recurses := true, apart := false }
def FnLevelsOfSaid : Prop := fnLevelsOfRow.holds Try.pinned (OpenSpec.ofChange fnLevelsOfSpec)

/-- ITS FALSE NEIGHBOUR: 'it returns false'. Refute it at one input. -/
def fnLevelsOfWrong : ChangeSpec := { name := "fnLevelsOf", fn := fun _ => fun
  | [d] => { results := [.lit (.bool false)], args := [d] }
  | _ => none }
def FnLevelsOfWrongFalsely : Prop := fnLevelsOfRow.holds Try.pinned (OpenSpec.ofChange fnLevelsOfWrong)

/-- 'laws.FnQuietAhead': WHATEVER THE INPUT: true; the input reads as it did. -/
def fnQuietAheadSpec : ChangeSpec := { name := "fnQuietAhead", fn := fun _ => fun
  | [d] => { results := [.lit (.bool true)], args := [d] }
  | _ => none }
def fnQuietAheadRow : OpenClaim := { program := "ytcjnccepckdiaaa", sum := "4566e6799d185132dabd767812f3d9fa1cf248dec3967ec9c404b20b62aee960", func := "loop.example/witnessorders/laws.FnQuietAhead", spec := "fnQuietAhead", unfollowed := true, recurses := true, apart := false }
def FnQuietAheadSaid : Prop := fnQuietAheadRow.holds Try.pinned (OpenSpec.ofChange fnQuietAheadSpec)

/-- ITS FALSE NEIGHBOUR: 'it returns false'. Refute it at one input. -/
def fnQuietAheadWrong : ChangeSpec := { name := "fnQuietAhead", fn := fun _ => fun
  | [d] => { results := [.lit (.bool false)], args := [d] }
  | _ => none }
def FnQuietAheadWrongFalsely : Prop := fnQuietAheadRow.holds Try.pinned (OpenSpec.ofChange fnQuietAheadWrong)

/-- 'laws.FnSourcesOf': WHATEVER THE INPUT: true; the input reads as it did. -/
def fnSourcesOfSpec : ChangeSpec := { name := "fnSourcesOf", fn := fun _ => fun
  | [d] => { results := [.lit (.bool true)], args := [d] }
  | _ => none }
def fnSourcesOfRow : OpenClaim := { program := "ytcjnccepckdiaaa", sum := "4566e6799d185132dabd767812f3d9fa1cf248dec3967ec9c404b20b62aee960", func := "loop.example/witnessorders/laws.FnSourcesOf", spec := "fnSourcesOf", apart := false }
def FnSourcesOfSaid : Prop := fnSourcesOfRow.holds Try.pinned (OpenSpec.ofChange fnSourcesOfSpec)

/-- ITS FALSE NEIGHBOUR: 'it returns false'. Refute it at one input. -/
def fnSourcesOfWrong : ChangeSpec := { name := "fnSourcesOf", fn := fun _ => fun
  | [d] => { results := [.lit (.bool false)], args := [d] }
  | _ => none }
def FnSourcesOfWrongFalsely : Prop := fnSourcesOfRow.holds Try.pinned (OpenSpec.ofChange fnSourcesOfWrong)

/-- 'laws.FnPointsOf': WHATEVER THE INPUT: true; the input reads as it did. -/
def fnPointsOfSpec : ChangeSpec := { name := "fnPointsOf", fn := fun _ => fun
  | [d] => { results := [.lit (.bool true)], args := [d] }
  | _ => none }
def fnPointsOfRow : OpenClaim := { program := "ytcjnccepckdiaaa", sum := "4566e6799d185132dabd767812f3d9fa1cf248dec3967ec9c404b20b62aee960", func := "loop.example/witnessorders/laws.FnPointsOf", spec := "fnPointsOf", unfollowed := true, recurses := true, apart := false }
def FnPointsOfSaid : Prop := fnPointsOfRow.holds Try.pinned (OpenSpec.ofChange fnPointsOfSpec)

/-- ITS FALSE NEIGHBOUR: 'it returns false'. Refute it at one input. -/
def fnPointsOfWrong : ChangeSpec := { name := "fnPointsOf", fn := fun _ => fun
  | [d] => { results := [.lit (.bool false)], args := [d] }
  | _ => none }
def FnPointsOfWrongFalsely : Prop := fnPointsOfRow.holds Try.pinned (OpenSpec.ofChange fnPointsOfWrong)

/-- 'laws.FnTurnOf': WHATEVER THE INPUT: true; the input reads as it did. -/
def fnTurnOfSpec : ChangeSpec := { name := "fnTurnOf", fn := fun _ => fun
  | [d] => { results := [.lit (.bool true)], args := [d] }
  | _ => none }
def fnTurnOfRow : OpenClaim := { program := "ytcjnccepckdiaaa", sum := "4566e6799d185132dabd767812f3d9fa1cf248dec3967ec9c404b20b62aee960", func := "loop.example/witnessorders/laws.FnTurnOf", spec := "fnTurnOf", apart := false }
def FnTurnOfSaid : Prop := fnTurnOfRow.holds Try.pinned (OpenSpec.ofChange fnTurnOfSpec)

/-- ITS FALSE NEIGHBOUR: 'it returns false'. Refute it at one input. -/
def fnTurnOfWrong : ChangeSpec := { name := "fnTurnOf", fn := fun _ => fun
  | [d] => { results := [.lit (.bool false)], args := [d] }
  | _ => none }
def FnTurnOfWrongFalsely : Prop := fnTurnOfRow.holds Try.pinned (OpenSpec.ofChange fnTurnOfWrong)

/- THE SECOND FORM. 'bulk': how many values and letters a reading holds, each counted each time it is reached (what is shared counts as often as it is met; a slice's spare places count too). A statement '..UptoSaid' is the law's where the arguments, and the package variables that the reading takes, are together of bulk at most 1048576: NARROWER than '..Said'. Prove '..Said' where nothing that the law and all that it calls make is longer than what came in: it says more and counts as full. Else prove '..UptoSaid'. A law counts once. -/
mutual
def uptoBulk {H : Type} : DataW H → Nat
  | .lit (.string bytes) => bytes.length + 1
  | .lit _ => 1
  | .nil => 1
  | .ptr d => uptoBulk d + 1
  | .slice elems spare => uptoBulkAll elems + uptoBulkAll spare + 1
  | .agg parts => uptoBulkAll parts + 1
  | .iface _ d => uptoBulk d + 1
  | .map entries => uptoBulkEntries entries + 1
  | .held _ => 1
def uptoBulkAll {H : Type} : List (DataW H) → Nat
  | [] => 0
  | d :: r => uptoBulk d + uptoBulkAll r
def uptoBulkEntries {H : Type} : List (Lit × DataW H) → Nat
  | [] => 0
  | x :: r => uptoBulkEntry x + uptoBulkEntries r
def uptoBulkEntry {H : Type} : Lit × DataW H → Nat
  | (.string bytes, d) => bytes.length + uptoBulk d + 1
  | (_, d) => uptoBulk d + 1
 end
def uptoSmall : (H : Type) → List (DataW H) → Bool := fun _ ds => decide (uptoBulkAll ds ≤ 1048576)
def OpenSpec.upto (s : _root_.Go.ChangeSpec) : _root_.Go.OpenSpec := { _root_.Go.OpenSpec.ofChange s with cond := some uptoSmall }

/-- 'laws.FnIsOneWriter', WHERE WHAT IT READS IS OF BULK AT MOST 1048576: true; the input reads as it did. -/
def fnIsOneWriterUptoRow : OpenClaim := { program := "ytcjnccepckdiaaa", sum := "4566e6799d185132dabd767812f3d9fa1cf248dec3967ec9c404b20b62aee960", func := "loop.example/witnessorders/laws.FnIsOneWriter", spec := "fnIsOneWriter", apart := false, narrowed := true }
def FnIsOneWriterUptoSaid : Prop := fnIsOneWriterUptoRow.holds Try.pinned (OpenSpec.upto fnIsOneWriterSpec)

/-- 'laws.FnStepObject', WHERE WHAT IT READS IS OF BULK AT MOST 1048576: true; the input reads as it did. -/
def fnStepObjectUptoRow : OpenClaim := { program := "ytcjnccepckdiaaa", sum := "4566e6799d185132dabd767812f3d9fa1cf248dec3967ec9c404b20b62aee960", func := "loop.example/witnessorders/laws.FnStepObject", spec := "fnStepObject", apart := false, narrowed := true }
def FnStepObjectUptoSaid : Prop := fnStepObjectUptoRow.holds Try.pinned (OpenSpec.upto fnStepObjectSpec)

/-- 'laws.FnMarkedCuts', WHERE WHAT IT READS IS OF BULK AT MOST 1048576: true; the input reads as it did. -/
def fnMarkedCutsUptoRow : OpenClaim := { program := "ytcjnccepckdiaaa", sum := "4566e6799d185132dabd767812f3d9fa1cf248dec3967ec9c404b20b62aee960", func := "loop.example/witnessorders/laws.FnMarkedCuts", spec := "fnMarkedCuts", unfollowed := true, recurses := true, apart := false, narrowed := true }
def FnMarkedCutsUptoSaid : Prop := fnMarkedCutsUptoRow.holds Try.pinned (OpenSpec.upto fnMarkedCutsSpec)

/-- 'laws.FnWidthOf', WHERE WHAT IT READS IS OF BULK AT MOST 1048576: true; the input reads as it did. -/
def fnWidthOfUptoRow : OpenClaim := { program := "ytcjnccepckdiaaa", sum := "4566e6799d185132dabd767812f3d9fa1cf248dec3967ec9c404b20b62aee960", func := "loop.example/witnessorders/laws.FnWidthOf", spec := "fnWidthOf", apart := false, narrowed := true }
def FnWidthOfUptoSaid : Prop := fnWidthOfUptoRow.holds Try.pinned (OpenSpec.upto fnWidthOfSpec)

/-- 'laws.FnIsSure', WHERE WHAT IT READS IS OF BULK AT MOST 1048576: true; the input reads as it did. -/
def fnIsSureUptoRow : OpenClaim := { program := "ytcjnccepckdiaaa", sum := "4566e6799d185132dabd767812f3d9fa1cf248dec3967ec9c404b20b62aee960", func := "loop.example/witnessorders/laws.FnIsSure", spec := "fnIsSure", unfollowed := true, recurses := true, apart := false, narrowed := true }
def FnIsSureUptoSaid : Prop := fnIsSureUptoRow.holds Try.pinned (OpenSpec.upto fnIsSureSpec)

/-- 'laws.FnAheadOf', WHERE WHAT IT READS IS OF BULK AT MOST 1048576: true; the input reads as it did. -/
def fnAheadOfUptoRow : OpenClaim := { program := "ytcjnccepckdiaaa", sum := "4566e6799d185132dabd767812f3d9fa1cf248dec3967ec9c404b20b62aee960", func := "loop.example/witnessorders/laws.FnAheadOf", spec := "fnAheadOf", unfollowed := true, recurses := true, apart := false, narrowed := true }
def FnAheadOfUptoSaid : Prop := fnAheadOfUptoRow.holds Try.pinned (OpenSpec.upto fnAheadOfSpec)

/-- 'laws.FnOwnAhead', WHERE WHAT IT READS IS OF BULK AT MOST 1048576: true; the input reads as it did. -/
def fnOwnAheadUptoRow : OpenClaim := { program := "ytcjnccepckdiaaa", sum := "4566e6799d185132dabd767812f3d9fa1cf248dec3967ec9c404b20b62aee960", func := "loop.example/witnessorders/laws.FnOwnAhead", spec := "fnOwnAhead", unfollowed := true, recurses := true, apart := false, narrowed := true }
def FnOwnAheadUptoSaid : Prop := fnOwnAheadUptoRow.holds Try.pinned (OpenSpec.upto fnOwnAheadSpec)

/-- 'laws.FnLevelsOf', WHERE WHAT IT READS IS OF BULK AT MOST 1048576: true; the input reads as it did. -/
def fnLevelsOfUptoRow : OpenClaim := { program := "ytcjnccepckdiaaa", sum := "4566e6799d185132dabd767812f3d9fa1cf248dec3967ec9c404b20b62aee960", func := "loop.example/witnessorders/laws.FnLevelsOf", spec := "fnLevelsOf", unfollowed := true, recurses := true, apart := false, narrowed := true }
def FnLevelsOfUptoSaid : Prop := fnLevelsOfUptoRow.holds Try.pinned (OpenSpec.upto fnLevelsOfSpec)

/-- 'laws.FnQuietAhead', WHERE WHAT IT READS IS OF BULK AT MOST 1048576: true; the input reads as it did. -/
def fnQuietAheadUptoRow : OpenClaim := { program := "ytcjnccepckdiaaa", sum := "4566e6799d185132dabd767812f3d9fa1cf248dec3967ec9c404b20b62aee960", func := "loop.example/witnessorders/laws.FnQuietAhead", spec := "fnQuietAhead", unfollowed := true, recurses := true, apart := false, narrowed := true }
def FnQuietAheadUptoSaid : Prop := fnQuietAheadUptoRow.holds Try.pinned (OpenSpec.upto fnQuietAheadSpec)

/-- 'laws.FnSourcesOf', WHERE WHAT IT READS IS OF BULK AT MOST 1048576: true; the input reads as it did. -/
def fnSourcesOfUptoRow : OpenClaim := { program := "ytcjnccepckdiaaa", sum := "4566e6799d185132dabd767812f3d9fa1cf248dec3967ec9c404b20b62aee960", func := "loop.example/witnessorders/laws.FnSourcesOf", spec := "fnSourcesOf", apart := false, narrowed := true }
def FnSourcesOfUptoSaid : Prop := fnSourcesOfUptoRow.holds Try.pinned (OpenSpec.upto fnSourcesOfSpec)

/-- 'laws.FnPointsOf', WHERE WHAT IT READS IS OF BULK AT MOST 1048576: true; the input reads as it did. -/
def fnPointsOfUptoRow : OpenClaim := { program := "ytcjnccepckdiaaa", sum := "4566e6799d185132dabd767812f3d9fa1cf248dec3967ec9c404b20b62aee960", func := "loop.example/witnessorders/laws.FnPointsOf", spec := "fnPointsOf", unfollowed := true, recurses := true, apart := false, narrowed := true }
def FnPointsOfUptoSaid : Prop := fnPointsOfUptoRow.holds Try.pinned (OpenSpec.upto fnPointsOfSpec)

/-- 'laws.FnTurnOf', WHERE WHAT IT READS IS OF BULK AT MOST 1048576: true; the input reads as it did. -/
def fnTurnOfUptoRow : OpenClaim := { program := "ytcjnccepckdiaaa", sum := "4566e6799d185132dabd767812f3d9fa1cf248dec3967ec9c404b20b62aee960", func := "loop.example/witnessorders/laws.FnTurnOf", spec := "fnTurnOf", apart := false, narrowed := true }
def FnTurnOfUptoSaid : Prop := fnTurnOfUptoRow.holds Try.pinned (OpenSpec.upto fnTurnOfSpec)

end Rows
end Go.Proofs.Ytcjnccepckdiaaa
