/-
  No cell of these rows narrows 'for every input' (looked for: loops, veiled, ifaces, maps, wideKeys, modest, calm, conditions, laid).
  DERIVED. THE GIVEN ROWS OF THIS SEAT. 6 by the template 'for every input the law returns true; each argument reads behind the call as it read before'; 0 by the template 'total and deterministic' (their statements: YtggcajkjoaichaaTotals.lean).
  GIVEN WITH THE SEED: the statements are not yours to turn. If you find one false, say at which input.
  Laid BY PROGRAM, IN A SANDBOX (cutbox-rows.mjs): the forced cells as the released guide's own fill.sh prints them over the translation a0b5c75f5586b851… (all of the seat's roots in one cut). By AI agents, Wed Nov 11 2026. No macro, syntax, notation, axiom, sorry.
-/
import Derived.Test.YtggcajkjoaichaaChecked
import GoSem.Claim
import GoSem.ClaimJoined
import GoSem.ClaimMapViews
import Derived.JoinedTies
import Derived.KernelRfl
namespace Go.Proofs.Ytggcajkjoaichaa
/- THE CELL 'sum', in the pinned program and in every row, IS THE sha256 OF THE DUMP (.gsa) THAT YtggcajkjoaichaaProg.lean LOADS. Nothing in Lean hashes anything: it is a label: what it is worth is what the hold of that sum in a sandbox is worth. -/
noncomputable def Try.pinned : Pinned := { name := "ytggcajkjoaichaa", sum := "a0b5c75f5586b851b17726c36a8eae624fc0c60719d38a36d2ba0cdb30e53467", checked := Try.checked }
namespace Rows
def none {H : Type} : Left H := { results := [], args := [] }

/-- 'laws.FnIsRight': WHATEVER THE INPUT: true; the input reads as it did. -/
def fnIsRightSpec : ChangeSpec := { name := "fnIsRight", fn := fun _ => fun
  | [d] => { results := [.lit (.bool true)], args := [d] }
  | _ => none }
def fnIsRightRow : OpenClaim := { program := "ytggcajkjoaichaa", sum := "a0b5c75f5586b851b17726c36a8eae624fc0c60719d38a36d2ba0cdb30e53467", func := "loop.example/witnessorders/laws.FnIsRight", spec := "fnIsRight", apart := false }
def FnIsRightSaid : Prop := fnIsRightRow.holds Try.pinned (OpenSpec.ofChange fnIsRightSpec)

/-- ITS FALSE NEIGHBOUR: 'it returns false'. Refute it at one input. -/
def fnIsRightWrong : ChangeSpec := { name := "fnIsRight", fn := fun _ => fun
  | [d] => { results := [.lit (.bool false)], args := [d] }
  | _ => none }
def FnIsRightWrongFalsely : Prop := fnIsRightRow.holds Try.pinned (OpenSpec.ofChange fnIsRightWrong)

/-- 'laws.FnStateBehind': WHATEVER THE INPUT: true; the input reads as it did. -/
def fnStateBehindSpec : ChangeSpec := { name := "fnStateBehind", fn := fun _ => fun
  | [d] => { results := [.lit (.bool true)], args := [d] }
  | _ => none }
def fnStateBehindRow : OpenClaim := { program := "ytggcajkjoaichaa", sum := "a0b5c75f5586b851b17726c36a8eae624fc0c60719d38a36d2ba0cdb30e53467", func := "loop.example/witnessorders/laws.FnStateBehind", spec := "fnStateBehind", apart := false }
def FnStateBehindSaid : Prop := fnStateBehindRow.holds Try.pinned (OpenSpec.ofChange fnStateBehindSpec)

/-- ITS FALSE NEIGHBOUR: 'it returns false'. Refute it at one input. -/
def fnStateBehindWrong : ChangeSpec := { name := "fnStateBehind", fn := fun _ => fun
  | [d] => { results := [.lit (.bool false)], args := [d] }
  | _ => none }
def FnStateBehindWrongFalsely : Prop := fnStateBehindRow.holds Try.pinned (OpenSpec.ofChange fnStateBehindWrong)

/-- 'laws.FnIsOwn': WHATEVER THE INPUT: true; the input reads as it did. -/
def fnIsOwnSpec : ChangeSpec := { name := "fnIsOwn", fn := fun _ => fun
  | [d] => { results := [.lit (.bool true)], args := [d] }
  | _ => none }
def fnIsOwnRow : OpenClaim := { program := "ytggcajkjoaichaa", sum := "a0b5c75f5586b851b17726c36a8eae624fc0c60719d38a36d2ba0cdb30e53467", func := "loop.example/witnessorders/laws.FnIsOwn", spec := "fnIsOwn", unfollowed := true, recurses := true, apart := false }
def FnIsOwnSaid : Prop := fnIsOwnRow.holds Try.pinned (OpenSpec.ofChange fnIsOwnSpec)

/-- ITS FALSE NEIGHBOUR: 'it returns false'. Refute it at one input. -/
def fnIsOwnWrong : ChangeSpec := { name := "fnIsOwn", fn := fun _ => fun
  | [d] => { results := [.lit (.bool false)], args := [d] }
  | _ => none }
def FnIsOwnWrongFalsely : Prop := fnIsOwnRow.holds Try.pinned (OpenSpec.ofChange fnIsOwnWrong)

/-- 'laws.FnIsQuiet': WHATEVER THE INPUT: true; the input reads as it did. -/
def fnIsQuietSpec : ChangeSpec := { name := "fnIsQuiet", fn := fun _ => fun
  | [d] => { results := [.lit (.bool true)], args := [d] }
  | _ => none }
def fnIsQuietRow : OpenClaim := { program := "ytggcajkjoaichaa", sum := "a0b5c75f5586b851b17726c36a8eae624fc0c60719d38a36d2ba0cdb30e53467", func := "loop.example/witnessorders/laws.FnIsQuiet", spec := "fnIsQuiet", unfollowed := true, recurses := true, apart := false }
def FnIsQuietSaid : Prop := fnIsQuietRow.holds Try.pinned (OpenSpec.ofChange fnIsQuietSpec)

/-- ITS FALSE NEIGHBOUR: 'it returns false'. Refute it at one input. -/
def fnIsQuietWrong : ChangeSpec := { name := "fnIsQuiet", fn := fun _ => fun
  | [d] => { results := [.lit (.bool false)], args := [d] }
  | _ => none }
def FnIsQuietWrongFalsely : Prop := fnIsQuietRow.holds Try.pinned (OpenSpec.ofChange fnIsQuietWrong)

/-- 'laws.FnOwnOrders': WHATEVER THE INPUT: true; the input reads as it did. -/
def fnOwnOrdersSpec : ChangeSpec := { name := "fnOwnOrders", fn := fun _ => fun
  | [d] => { results := [.lit (.bool true)], args := [d] }
  | _ => none }
def fnOwnOrdersRow : OpenClaim := { program := "ytggcajkjoaichaa", sum := "a0b5c75f5586b851b17726c36a8eae624fc0c60719d38a36d2ba0cdb30e53467", func := "loop.example/witnessorders/laws.FnOwnOrders", spec := "fnOwnOrders", unfollowed := true, recurses := true, apart := false }
def FnOwnOrdersSaid : Prop := fnOwnOrdersRow.holds Try.pinned (OpenSpec.ofChange fnOwnOrdersSpec)

/-- ITS FALSE NEIGHBOUR: 'it returns false'. Refute it at one input. -/
def fnOwnOrdersWrong : ChangeSpec := { name := "fnOwnOrders", fn := fun _ => fun
  | [d] => { results := [.lit (.bool false)], args := [d] }
  | _ => none }
def FnOwnOrdersWrongFalsely : Prop := fnOwnOrdersRow.holds Try.pinned (OpenSpec.ofChange fnOwnOrdersWrong)

/-- 'laws.FnIsLinear': WHATEVER THE INPUT: true; the input reads as it did. -/
def fnIsLinearSpec : ChangeSpec := { name := "fnIsLinear", fn := fun _ => fun
  | [d] => { results := [.lit (.bool true)], args := [d] }
  | _ => none }
def fnIsLinearRow : OpenClaim := { program := "ytggcajkjoaichaa", sum := "a0b5c75f5586b851b17726c36a8eae624fc0c60719d38a36d2ba0cdb30e53467", func := "loop.example/witnessorders/laws.FnIsLinear", spec := "fnIsLinear", unfollowed := true, recurses := true, apart := false }
def FnIsLinearSaid : Prop := fnIsLinearRow.holds Try.pinned (OpenSpec.ofChange fnIsLinearSpec)

/-- ITS FALSE NEIGHBOUR: 'it returns false'. Refute it at one input. -/
def fnIsLinearWrong : ChangeSpec := { name := "fnIsLinear", fn := fun _ => fun
  | [d] => { results := [.lit (.bool false)], args := [d] }
  | _ => none }
def FnIsLinearWrongFalsely : Prop := fnIsLinearRow.holds Try.pinned (OpenSpec.ofChange fnIsLinearWrong)

/- THE SECOND FORM. 'bulk': how many values and letters a reading holds, each counted each time it is reached (what is shared counts as often as it is met; a slice's spare places count too). A statement '..UptoSaid' is the law's where the arguments, and the package variables that the reading takes, are together of bulk at most 1048576: NARROWER than '..Said'. Prove '..Said' where nothing that the law and all that it calls make is longer than what came in: it says more and counts as full. Else prove '..UptoSaid'. A law counts once. -/
mutual
def uptoBulk {H : Type} : DataW H → Nat
  | .lit (.string bytes) => bytes.length + 1
  | .lit _ => 1
  | .nil => 1
  | .ptr d => uptoBulk d + 1
  | .slice elems spare => uptoBulkAll elems + uptoBulkAll spare + 1
  | .agg parts => uptoBulkAll parts + 1
  | .iface _ d => uptoBulk d + 1
  | .map entries => uptoBulkEntries entries + 1
  | .held _ => 1
def uptoBulkAll {H : Type} : List (DataW H) → Nat
  | [] => 0
  | d :: r => uptoBulk d + uptoBulkAll r
def uptoBulkEntries {H : Type} : List (Lit × DataW H) → Nat
  | [] => 0
  | x :: r => uptoBulkEntry x + uptoBulkEntries r
def uptoBulkEntry {H : Type} : Lit × DataW H → Nat
  | (.string bytes, d) => bytes.length + uptoBulk d + 1
  | (_, d) => uptoBulk d + 1
 end
def uptoSmall : (H : Type) → List (DataW H) → Bool := fun _ ds => decide (uptoBulkAll ds ≤ 1048576)
def OpenSpec.upto (s : _root_.Go.ChangeSpec) : _root_.Go.OpenSpec := { _root_.Go.OpenSpec.ofChange s with cond := some uptoSmall }

/-- 'laws.FnIsRight', WHERE WHAT IT READS IS OF BULK AT MOST 1048576: true; the input reads as it did. -/
def fnIsRightUptoRow : OpenClaim := { program := "ytggcajkjoaichaa", sum := "a0b5c75f5586b851b17726c36a8eae624fc0c60719d38a36d2ba0cdb30e53467", func := "loop.example/witnessorders/laws.FnIsRight", spec := "fnIsRight", apart := false, narrowed := true }
def FnIsRightUptoSaid : Prop := fnIsRightUptoRow.holds Try.pinned (OpenSpec.upto fnIsRightSpec)

/-- 'laws.FnStateBehind', WHERE WHAT IT READS IS OF BULK AT MOST 1048576: true; the input reads as it did. -/
def fnStateBehindUptoRow : OpenClaim := { program := "ytggcajkjoaichaa", sum := "a0b5c75f5586b851b17726c36a8eae624fc0c60719d38a36d2ba0cdb30e53467", func := "loop.example/witnessorders/laws.FnStateBehind", spec := "fnStateBehind", apart := false, narrowed := true }
def FnStateBehindUptoSaid : Prop := fnStateBehindUptoRow.holds Try.pinned (OpenSpec.upto fnStateBehindSpec)

/-- 'laws.FnIsOwn', WHERE WHAT IT READS IS OF BULK AT MOST 1048576: true; the input reads as it did. -/
def fnIsOwnUptoRow : OpenClaim := { program := "ytggcajkjoaichaa", sum := "a0b5c75f5586b851b17726c36a8eae624fc0c60719d38a36d2ba0cdb30e53467", func := "loop.example/witnessorders/laws.FnIsOwn", spec := "fnIsOwn", unfollowed := true, recurses := true, apart := false, narrowed := true }
def FnIsOwnUptoSaid : Prop := fnIsOwnUptoRow.holds Try.pinned (OpenSpec.upto fnIsOwnSpec)

/-- 'laws.FnIsQuiet', WHERE WHAT IT READS IS OF BULK AT MOST 1048576: true; the input reads as it did. -/
def fnIsQuietUptoRow : OpenClaim := { program := "ytggcajkjoaichaa", sum := "a0b5c75f5586b851b17726c36a8eae624fc0c60719d38a36d2ba0cdb30e53467", func := "loop.example/witnessorders/laws.FnIsQuiet", spec := "fnIsQuiet", unfollowed := true, recurses := true, apart := false, narrowed := true }
def FnIsQuietUptoSaid : Prop := fnIsQuietUptoRow.holds Try.pinned (OpenSpec.upto fnIsQuietSpec)

/-- 'laws.FnOwnOrders', WHERE WHAT IT READS IS OF BULK AT MOST 1048576: true; the input reads as it did. -/
def fnOwnOrdersUptoRow : OpenClaim := { program := "ytggcajkjoaichaa", sum := "a0b5c75f5586b851b17726c36a8eae624fc0c60719d38a36d2ba0cdb30e53467", func := "loop.example/witnessorders/laws.FnOwnOrders", spec := "fnOwnOrders", unfollowed := true, recurses := true, apart := false, narrowed := true }
def FnOwnOrdersUptoSaid : Prop := fnOwnOrdersUptoRow.holds Try.pinned (OpenSpec.upto fnOwnOrdersSpec)

/-- 'laws.FnIsLinear', WHERE WHAT IT READS IS OF BULK AT MOST 1048576: true; the input reads as it did. -/
def fnIsLinearUptoRow : OpenClaim := { program := "ytggcajkjoaichaa", sum := "a0b5c75f5586b851b17726c36a8eae624fc0c60719d38a36d2ba0cdb30e53467", func := "loop.example/witnessorders/laws.FnIsLinear", spec := "fnIsLinear", unfollowed := true, recurses := true, apart := false, narrowed := true }
def FnIsLinearUptoSaid : Prop := fnIsLinearUptoRow.holds Try.pinned (OpenSpec.upto fnIsLinearSpec)

end Rows
end Go.Proofs.Ytggcajkjoaichaa
