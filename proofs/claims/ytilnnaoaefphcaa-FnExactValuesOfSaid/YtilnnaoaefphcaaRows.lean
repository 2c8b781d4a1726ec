/-
  No cell of these rows narrows 'for every input' (looked for: loops, veiled, ifaces, maps, wideKeys, modest, calm, conditions, laid).
  DERIVED. THE GIVEN ROWS OF THIS SEAT. 7 by the template 'for every input the law returns true; each argument reads behind the call as it read before'; 0 by the template 'total and deterministic' (their statements: YtilnnaoaefphcaaTotals.lean).
  GIVEN WITH THE SEED: the statements are not yours to turn. If you find one false, say at which input.
  Laid BY PROGRAM, IN A SANDBOX (cutbox-rows.mjs): the forced cells as the released guide's own fill.sh prints them over the translation 7e86fce4ded2cfc6… (all of the seat's roots in one cut). By AI agents, Wed Nov 11 2026. No macro, syntax, notation, axiom, sorry.
-/
import Derived.Test.YtilnnaoaefphcaaChecked
import GoSem.Claim
import GoSem.ClaimJoined
import GoSem.ClaimMapViews
import Derived.JoinedTies
import Derived.KernelRfl
namespace Go.Proofs.Ytilnnaoaefphcaa
/- THE CELL 'sum', in the pinned program and in every row, IS THE sha256 OF THE DUMP (.gsa) THAT YtilnnaoaefphcaaProg.lean LOADS. Nothing in Lean hashes anything: it is a label: what it is worth is what the hold of that sum in a sandbox is worth. -/
noncomputable def Try.pinned : Pinned := { name := "ytilnnaoaefphcaa", sum := "7e86fce4ded2cfc62620e625bc70c536b9ea90e2b5110c7edc148b9cae3657f6", checked := Try.checked }
namespace Rows
def none {H : Type} : Left H := { results := [], args := [] }

/-- 'laws.FnExactTakeOut': WHATEVER THE INPUT: true; the input reads as it did. -/
def fnExactTakeOutSpec : ChangeSpec := { name := "fnExactTakeOut", fn := fun _ => fun
  | [d1, d2] => { results := [.lit (.bool true)], args := [d1, d2] }
  | _ => none }
def fnExactTakeOutRow : OpenClaim := { program := "ytilnnaoaefphcaa", sum := "7e86fce4ded2cfc62620e625bc70c536b9ea90e2b5110c7edc148b9cae3657f6", func := "loop.example/witnessorders/laws.FnExactTakeOut", spec := "fnExactTakeOut", unfollowed := true, recurses := true, apart := false }
def FnExactTakeOutSaid : Prop := fnExactTakeOutRow.holds Try.pinned (OpenSpec.ofChange fnExactTakeOutSpec)

/-- ITS FALSE NEIGHBOUR: 'it returns false'. Refute it at one input. -/
def fnExactTakeOutWrong : ChangeSpec := { name := "fnExactTakeOut", fn := fun _ => fun
  | [d1, d2] => { results := [.lit (.bool false)], args := [d1, d2] }
  | _ => none }
def FnExactTakeOutWrongFalsely : Prop := fnExactTakeOutRow.holds Try.pinned (OpenSpec.ofChange fnExactTakeOutWrong)

/-- 'laws.FnExactAddTo': WHATEVER THE INPUT: true; the input reads as it did. -/
def fnExactAddToSpec : ChangeSpec := { name := "fnExactAddTo", fn := fun _ => fun
  | [d1, d2, d3] => { results := [.lit (.bool true)], args := [d1, d2, d3] }
  | _ => none }
def fnExactAddToRow : OpenClaim := { program := "ytilnnaoaefphcaa", sum := "7e86fce4ded2cfc62620e625bc70c536b9ea90e2b5110c7edc148b9cae3657f6", func := "loop.example/witnessorders/laws.FnExactAddTo", spec := "fnExactAddTo", unfollowed := true, recurses := true, apart := false }
def FnExactAddToSaid : Prop := fnExactAddToRow.holds Try.pinned (OpenSpec.ofChange fnExactAddToSpec)

/-- ITS FALSE NEIGHBOUR: 'it returns false'. Refute it at one input. -/
def fnExactAddToWrong : ChangeSpec := { name := "fnExactAddTo", fn := fun _ => fun
  | [d1, d2, d3] => { results := [.lit (.bool false)], args := [d1, d2, d3] }
  | _ => none }
def FnExactAddToWrongFalsely : Prop := fnExactAddToRow.holds Try.pinned (OpenSpec.ofChange fnExactAddToWrong)

/-- 'laws.FnExactWriteTo': WHATEVER THE INPUT: true; the input reads as it did. -/
def fnExactWriteToSpec : ChangeSpec := { name := "fnExactWriteTo", fn := fun _ => fun
  | [d1, d2, d3, d4] => { results := [.lit (.bool true)], args := [d1, d2, d3, d4] }
  | _ => none }
def fnExactWriteToRow : OpenClaim := { program := "ytilnnaoaefphcaa", sum := "7e86fce4ded2cfc62620e625bc70c536b9ea90e2b5110c7edc148b9cae3657f6", func := "loop.example/witnessorders/laws.FnExactWriteTo", spec := "fnExactWriteTo", unfollowed := true, recurses := true, apart := false }
def FnExactWriteToSaid : Prop := fnExactWriteToRow.holds Try.pinned (OpenSpec.ofChange fnExactWriteToSpec)

/-- ITS FALSE NEIGHBOUR: 'it returns false'. Refute it at one input. -/
def fnExactWriteToWrong : ChangeSpec := { name := "fnExactWriteTo", fn := fun _ => fun
  | [d1, d2, d3, d4] => { results := [.lit (.bool false)], args := [d1, d2, d3, d4] }
  | _ => none }
def FnExactWriteToWrongFalsely : Prop := fnExactWriteToRow.holds Try.pinned (OpenSpec.ofChange fnExactWriteToWrong)

/-- 'laws.FnExactPutIn': WHATEVER THE INPUT: true; the input reads as it did. -/
def fnExactPutInSpec : ChangeSpec := { name := "fnExactPutIn", fn := fun _ => fun
  | [d1, d2, d3] => { results := [.lit (.bool true)], args := [d1, d2, d3] }
  | _ => none }
def fnExactPutInRow : OpenClaim := { program := "ytilnnaoaefphcaa", sum := "7e86fce4ded2cfc62620e625bc70c536b9ea90e2b5110c7edc148b9cae3657f6", func := "loop.example/witnessorders/laws.FnExactPutIn", spec := "fnExactPutIn", inPlace := ["slices.overlaps[loop.example/witnessorders/impl.Mark]"], unfollowed := true, recurses := true, apart := false }
def FnExactPutInSaid : Prop := fnExactPutInRow.holds Try.pinned (OpenSpec.ofChange fnExactPutInSpec)

/-- ITS FALSE NEIGHBOUR: 'it returns false'. Refute it at one input. -/
def fnExactPutInWrong : ChangeSpec := { name := "fnExactPutIn", fn := fun _ => fun
  | [d1, d2, d3] => { results := [.lit (.bool false)], args := [d1, d2, d3] }
  | _ => none }
def FnExactPutInWrongFalsely : Prop := fnExactPutInRow.holds Try.pinned (OpenSpec.ofChange fnExactPutInWrong)

/-- 'laws.FnExactIsWithin': WHATEVER THE INPUT: true; the input reads as it did. -/
def fnExactIsWithinSpec : ChangeSpec := { name := "fnExactIsWithin", fn := fun _ => fun
  | [d1, d2] => { results := [.lit (.bool true)], args := [d1, d2] }
  | _ => none }
def fnExactIsWithinRow : OpenClaim := { program := "ytilnnaoaefphcaa", sum := "7e86fce4ded2cfc62620e625bc70c536b9ea90e2b5110c7edc148b9cae3657f6", func := "loop.example/witnessorders/laws.FnExactIsWithin", spec := "fnExactIsWithin", inPlace := ["slices.overlaps[loop.example/witnessorders/impl.Mark]"], unfollowed := true, recurses := true, apart := false }
def FnExactIsWithinSaid : Prop := fnExactIsWithinRow.holds Try.pinned (OpenSpec.ofChange fnExactIsWithinSpec)

/-- ITS FALSE NEIGHBOUR: 'it returns false'. Refute it at one input. -/
def fnExactIsWithinWrong : ChangeSpec := { name := "fnExactIsWithin", fn := fun _ => fun
  | [d1, d2] => { results := [.lit (.bool false)], args := [d1, d2] }
  | _ => none }
def FnExactIsWithinWrongFalsely : Prop := fnExactIsWithinRow.holds Try.pinned (OpenSpec.ofChange fnExactIsWithinWrong)

/-- 'laws.FnExactMergeCopies': WHATEVER THE INPUT: true; the input reads as it did. -/
def fnExactMergeCopiesSpec : ChangeSpec := { name := "fnExactMergeCopies", fn := fun _ => fun
  | [d1, d2] => { results := [.lit (.bool true)], args := [d1, d2] }
  | _ => none }
def fnExactMergeCopiesRow : OpenClaim := { program := "ytilnnaoaefphcaa", sum := "7e86fce4ded2cfc62620e625bc70c536b9ea90e2b5110c7edc148b9cae3657f6", func := "loop.example/witnessorders/laws.FnExactMergeCopies", spec := "fnExactMergeCopies", inPlace := ["slices.overlaps[loop.example/witnessorders/impl.Mark]"], unfollowed := true, recurses := true, apart := false }
def FnExactMergeCopiesSaid : Prop := fnExactMergeCopiesRow.holds Try.pinned (OpenSpec.ofChange fnExactMergeCopiesSpec)

/-- ITS FALSE NEIGHBOUR: 'it returns false'. Refute it at one input. -/
def fnExactMergeCopiesWrong : ChangeSpec := { name := "fnExactMergeCopies", fn := fun _ => fun
  | [d1, d2] => { results := [.lit (.bool false)], args := [d1, d2] }
  | _ => none }
def FnExactMergeCopiesWrongFalsely : Prop := fnExactMergeCopiesRow.holds Try.pinned (OpenSpec.ofChange fnExactMergeCopiesWrong)

/-- 'laws.FnExactValuesOf': WHATEVER THE INPUT: true; the input reads as it did. -/
def fnExactValuesOfSpec : ChangeSpec := { name := "fnExactValuesOf", fn := fun _ => fun
  | [d] => { results := [.lit (.bool true)], args := [d] }
  | _ => none }
def fnExactValuesOfRow : OpenClaim := { program := "ytilnnaoaefphcaa", sum := "7e86fce4ded2cfc62620e625bc70c536b9ea90e2b5110c7edc148b9cae3657f6", func := "loop.example/witnessorders/laws.FnExactValuesOf", spec := "fnExactValuesOf", unfollowed := true, recurses := true, apart := false }
def FnExactValuesOfSaid : Prop := fnExactValuesOfRow.holds Try.pinned (OpenSpec.ofChange fnExactValuesOfSpec)

/-- ITS FALSE NEIGHBOUR: 'it returns false'. Refute it at one input. -/
def fnExactValuesOfWrong : ChangeSpec := { name := "fnExactValuesOf", fn := fun _ => fun
  | [d] => { results := [.lit (.bool false)], args := [d] }
  | _ => none }
def FnExactValuesOfWrongFalsely : Prop := fnExactValuesOfRow.holds Try.pinned (OpenSpec.ofChange fnExactValuesOfWrong)

/- THE SECOND FORM. 'bulk': how many values and letters a reading holds, each counted each time it is reached (what is shared counts as often as it is met; a slice's spare places count too). A statement '..UptoSaid' is the law's where the arguments, and the package variables that the reading takes, are together of bulk at most 1048576: NARROWER than '..Said'. Prove '..Said' where nothing that the law and all that it calls make is longer than what came in: it says more and counts as full. Else prove '..UptoSaid'. A law counts once. -/
mutual
def uptoBulk {H : Type} : DataW H → Nat
  | .lit (.string bytes) => bytes.length + 1
  | .lit _ => 1
  | .nil => 1
  | .ptr d => uptoBulk d + 1
  | .slice elems spare => uptoBulkAll elems + uptoBulkAll spare + 1
  | .agg parts => uptoBulkAll parts + 1
  | .iface _ d => uptoBulk d + 1
  | .map entries => uptoBulkEntries entries + 1
  | .held _ => 1
def uptoBulkAll {H : Type} : List (DataW H) → Nat
  | [] => 0
  | d :: r => uptoBulk d + uptoBulkAll r
def uptoBulkEntries {H : Type} : List (Lit × DataW H) → Nat
  | [] => 0
  | x :: r => uptoBulkEntry x + uptoBulkEntries r
def uptoBulkEntry {H : Type} : Lit × DataW H → Nat
  | (.string bytes, d) => bytes.length + uptoBulk d + 1
  | (_, d) => uptoBulk d + 1
 end
def uptoSmall : (H : Type) → List (DataW H) → Bool := fun _ ds => decide (uptoBulkAll ds ≤ 1048576)
def OpenSpec.upto (s : _root_.Go.ChangeSpec) : _root_.Go.OpenSpec := { _root_.Go.OpenSpec.ofChange s with cond := some uptoSmall }

/-- 'laws.FnExactTakeOut', WHERE WHAT IT READS IS OF BULK AT MOST 1048576: true; the input reads as it did. -/
def fnExactTakeOutUptoRow : OpenClaim := { program := "ytilnnaoaefphcaa", sum := "7e86fce4ded2cfc62620e625bc70c536b9ea90e2b5110c7edc148b9cae3657f6", func := "loop.example/witnessorders/laws.FnExactTakeOut", spec := "fnExactTakeOut", unfollowed := true, recurses := true, apart := false, narrowed := true }
def FnExactTakeOutUptoSaid : Prop := fnExactTakeOutUptoRow.holds Try.pinned (OpenSpec.upto fnExactTakeOutSpec)

/-- 'laws.FnExactAddTo', WHERE WHAT IT READS IS OF BULK AT MOST 1048576: true; the input reads as it did. -/
def fnExactAddToUptoRow : OpenClaim := { program := "ytilnnaoaefphcaa", sum := "7e86fce4ded2cfc62620e625bc70c536b9ea90e2b5110c7edc148b9cae3657f6", func := "loop.example/witnessorders/laws.FnExactAddTo", spec := "fnExactAddTo", unfollowed := true, recurses := true, apart := false, narrowed := true }
def FnExactAddToUptoSaid : Prop := fnExactAddToUptoRow.holds Try.pinned (OpenSpec.upto fnExactAddToSpec)

/-- 'laws.FnExactWriteTo', WHERE WHAT IT READS IS OF BULK AT MOST 1048576: true; the input reads as it did. -/
def fnExactWriteToUptoRow : OpenClaim := { program := "ytilnnaoaefphcaa", sum := "7e86fce4ded2cfc62620e625bc70c536b9ea90e2b5110c7edc148b9cae3657f6", func := "loop.example/witnessorders/laws.FnExactWriteTo", spec := "fnExactWriteTo", unfollowed := true, recurses := true, apart := false, narrowed := true }
def FnExactWriteToUptoSaid : Prop := fnExactWriteToUptoRow.holds Try.pinned (OpenSpec.upto fnExactWriteToSpec)

/-- 'laws.FnExactPutIn', WHERE WHAT IT READS IS OF BULK AT MOST 1048576: true; the input reads as it did. -/
def fnExactPutInUptoRow : OpenClaim := { program := "ytilnnaoaefphcaa", sum := "7e86fce4ded2cfc62620e625bc70c536b9ea90e2b5110c7edc148b9cae3657f6", func := "loop.example/witnessorders/laws.FnExactPutIn", spec := "fnExactPutIn", inPlace := ["slices.overlaps[loop.example/witnessorders/impl.Mark]"], unfollowed := true, recurses := true, apart := false, narrowed := true }
def FnExactPutInUptoSaid : Prop := fnExactPutInUptoRow.holds Try.pinned (OpenSpec.upto fnExactPutInSpec)

/-- 'laws.FnExactIsWithin', WHERE WHAT IT READS IS OF BULK AT MOST 1048576: true; the input reads as it did. -/
def fnExactIsWithinUptoRow : OpenClaim := { program := "ytilnnaoaefphcaa", sum := "7e86fce4ded2cfc62620e625bc70c536b9ea90e2b5110c7edc148b9cae3657f6", func := "loop.example/witnessorders/laws.FnExactIsWithin", spec := "fnExactIsWithin", inPlace := ["slices.overlaps[loop.example/witnessorders/impl.Mark]"], unfollowed := true, recurses := true, apart := false, narrowed := true }
def FnExactIsWithinUptoSaid : Prop := fnExactIsWithinUptoRow.holds Try.pinned (OpenSpec.upto fnExactIsWithinSpec)

/-- 'laws.FnExactMergeCopies', WHERE WHAT IT READS IS OF BULK AT MOST 1048576: true; the input reads as it did. -/
def fnExactMergeCopiesUptoRow : OpenClaim := { program := "ytilnnaoaefphcaa", sum := "7e86fce4ded2cfc62620e625bc70c536b9ea90e2b5110c7edc148b9cae3657f6", func := "loop.example/witnessorders/laws.FnExactMergeCopies", spec := "fnExactMergeCopies", inPlace := ["slices.overlaps[loop.example/witnessorders/impl.Mark]"], unfollowed := true, recurses := true, apart := false, narrowed := true }
def FnExactMergeCopiesUptoSaid : Prop := fnExactMergeCopiesUptoRow.holds Try.pinned (OpenSpec.upto fnExactMergeCopiesSpec)

/-- 'laws.FnExactValuesOf', WHERE WHAT IT READS IS OF BULK AT MOST 1048576: true; the input reads as it did. -/
def fnExactValuesOfUptoRow : OpenClaim := { program := "ytilnnaoaefphcaa", sum := "7e86fce4ded2cfc62620e625bc70c536b9ea90e2b5110c7edc148b9cae3657f6", func := "loop.example/witnessorders/laws.FnExactValuesOf", spec := "fnExactValuesOf", unfollowed := true, recurses := true, apart := false, narrowed := true }
def FnExactValuesOfUptoSaid : Prop := fnExactValuesOfUptoRow.holds Try.pinned (OpenSpec.upto fnExactValuesOfSpec)

end Rows
end Go.Proofs.Ytilnnaoaefphcaa
