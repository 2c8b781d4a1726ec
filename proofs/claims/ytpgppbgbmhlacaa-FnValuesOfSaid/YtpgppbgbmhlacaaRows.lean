/-
  No cell of these rows narrows 'for every input' (looked for: loops, veiled, ifaces, maps, wideKeys, modest, calm, conditions, laid).
  DERIVED. THE GIVEN ROWS OF THIS SEAT. 6 by the template 'for every input the law returns true; each argument reads behind the call as it read before'; 0 by the template 'total and deterministic' (their statements: YtpgppbgbmhlacaaTotals.lean).
  GIVEN WITH THE SEED: the statements are not yours to turn. If you find one false, say at which input.
  Laid BY PROGRAM, IN A SANDBOX (cutbox-rows.mjs): the forced cells as the released guide's own fill.sh prints them over the translation 5e8b5947951696b8… (all of the seat's roots in one cut). By AI agents, Wed Nov 11 2026. No macro, syntax, notation, axiom, sorry.
-/
import Derived.Test.YtpgppbgbmhlacaaChecked
import GoSem.Claim
import GoSem.ClaimJoined
import GoSem.ClaimMapViews
import Derived.JoinedTies
import Derived.KernelRfl
namespace Go.Proofs.Ytpgppbgbmhlacaa
/- THE CELL 'sum', in the pinned program and in every row, IS THE sha256 OF THE DUMP (.gsa) THAT YtpgppbgbmhlacaaProg.lean LOADS. Nothing in Lean hashes anything: it is a label: what it is worth is what the hold of that sum in a sandbox is worth. -/
noncomputable def Try.pinned : Pinned := { name := "ytpgppbgbmhlacaa", sum := "5e8b5947951696b857c3c6689186ed667a243bf91b0371a8f7250f2f2a997dd2", checked := Try.checked }
namespace Rows
def none {H : Type} : Left H := { results := [], args := [] }

/-- 'laws.FnTotalOf': WHATEVER THE INPUT: true; the input reads as it did. -/
def fnTotalOfSpec : ChangeSpec := { name := "fnTotalOf", fn := fun _ => fun
  | [d] => { results := [.lit (.bool true)], args := [d] }
  | _ => none }
def fnTotalOfRow : OpenClaim := { program := "ytpgppbgbmhlacaa", sum := "5e8b5947951696b857c3c6689186ed667a243bf91b0371a8f7250f2f2a997dd2", func := "loop.example/witnessorders/laws.FnTotalOf", spec := "fnTotalOf", unfollowed := true, recurses := true, apart := false }
def FnTotalOfSaid : Prop := fnTotalOfRow.holds Try.pinned (OpenSpec.ofChange fnTotalOfSpec)

/-- ITS FALSE NEIGHBOUR: 'it returns false'. Refute it at one input. -/
def fnTotalOfWrong : ChangeSpec := { name := "fnTotalOf", fn := fun _ => fun
  | [d] => { results := [.lit (.bool false)], args := [d] }
  | _ => none }
def FnTotalOfWrongFalsely : Prop := fnTotalOfRow.holds Try.pinned (OpenSpec.ofChange fnTotalOfWrong)

/-- 'laws.FnValidCopy': WHATEVER THE INPUT: true; the input reads as it did. -/
def fnValidCopySpec : ChangeSpec := { name := "fnValidCopy", fn := fun _ => fun
  | [d] => { results := [.lit (.bool true)], args := [d] }
  | _ => none }
def fnValidCopyRow : OpenClaim := { program := "ytpgppbgbmhlacaa", sum := "5e8b5947951696b857c3c6689186ed667a243bf91b0371a8f7250f2f2a997dd2", func := "loop.example/witnessorders/laws.FnValidCopy", spec := "fnValidCopy", inPlace := ["slices.overlaps[loop.example/witnessorders/impl.Mark]"], unfollowed := true, recurses := true, apart := false }
def FnValidCopySaid : Prop := fnValidCopyRow.holds Try.pinned (OpenSpec.ofChange fnValidCopySpec)

/-- ITS FALSE NEIGHBOUR: 'it returns false'. Refute it at one input. -/
def fnValidCopyWrong : ChangeSpec := { name := "fnValidCopy", fn := fun _ => fun
  | [d] => { results := [.lit (.bool false)], args := [d] }
  | _ => none }
def FnValidCopyWrongFalsely : Prop := fnValidCopyRow.holds Try.pinned (OpenSpec.ofChange fnValidCopyWrong)

/-- 'laws.FnWriteTo': WHATEVER THE INPUT: true; the input reads as it did. -/
def fnWriteToSpec : ChangeSpec := { name := "fnWriteTo", fn := fun _ => fun
  | [d] => { results := [.lit (.bool true)], args := [d] }
  | _ => none }
def fnWriteToRow : OpenClaim := { program := "ytpgppbgbmhlacaa", sum := "5e8b5947951696b857c3c6689186ed667a243bf91b0371a8f7250f2f2a997dd2", func := "loop.example/witnessorders/laws.FnWriteTo", spec := "fnWriteTo", inPlace := ["slices.overlaps[loop.example/witnessorders/impl.Mark]"], unfollowed := true, recurses := true, apart := false }
def FnWriteToSaid : Prop := fnWriteToRow.holds Try.pinned (OpenSpec.ofChange fnWriteToSpec)

/-- ITS FALSE NEIGHBOUR: 'it returns false'. Refute it at one input. -/
def fnWriteToWrong : ChangeSpec := { name := "fnWriteTo", fn := fun _ => fun
  | [d] => { results := [.lit (.bool false)], args := [d] }
  | _ => none }
def FnWriteToWrongFalsely : Prop := fnWriteToRow.holds Try.pinned (OpenSpec.ofChange fnWriteToWrong)

/-- 'laws.FnAddTo': WHATEVER THE INPUT: true; the input reads as it did. -/
def fnAddToSpec : ChangeSpec := { name := "fnAddTo", fn := fun _ => fun
  | [d] => { results := [.lit (.bool true)], args := [d] }
  | _ => none }
def fnAddToRow : OpenClaim := { program := "ytpgppbgbmhlacaa", sum := "5e8b5947951696b857c3c6689186ed667a243bf91b0371a8f7250f2f2a997dd2", func := "loop.example/witnessorders/laws.FnAddTo", spec := "fnAddTo", inPlace := ["slices.overlaps[loop.example/witnessorders/impl.Mark]"], unfollowed := true, recurses := true, apart := false }
def FnAddToSaid : Prop := fnAddToRow.holds Try.pinned (OpenSpec.ofChange fnAddToSpec)

/-- ITS FALSE NEIGHBOUR: 'it returns false'. Refute it at one input. -/
def fnAddToWrong : ChangeSpec := { name := "fnAddTo", fn := fun _ => fun
  | [d] => { results := [.lit (.bool false)], args := [d] }
  | _ => none }
def FnAddToWrongFalsely : Prop := fnAddToRow.holds Try.pinned (OpenSpec.ofChange fnAddToWrong)

/-- 'laws.FnIsWithin': WHATEVER THE INPUT: true; the input reads as it did. -/
def fnIsWithinSpec : ChangeSpec := { name := "fnIsWithin", fn := fun _ => fun
  | [d] => { results := [.lit (.bool true)], args := [d] }
  | _ => none }
def fnIsWithinRow : OpenClaim := { program := "ytpgppbgbmhlacaa", sum := "5e8b5947951696b857c3c6689186ed667a243bf91b0371a8f7250f2f2a997dd2", func := "loop.example/witnessorders/laws.FnIsWithin", spec := "fnIsWithin", inPlace := ["slices.overlaps[loop.example/witnessorders/impl.Mark]"], unfollowed := true, recurses := true, apart := false }
def FnIsWithinSaid : Prop := fnIsWithinRow.holds Try.pinned (OpenSpec.ofChange fnIsWithinSpec)

/-- ITS FALSE NEIGHBOUR: 'it returns false'. Refute it at one input. -/
def fnIsWithinWrong : ChangeSpec := { name := "fnIsWithin", fn := fun _ => fun
  | [d] => { results := [.lit (.bool false)], args := [d] }
  | _ => none }
def FnIsWithinWrongFalsely : Prop := fnIsWithinRow.holds Try.pinned (OpenSpec.ofChange fnIsWithinWrong)

/-- 'laws.FnValuesOf': WHATEVER THE INPUT: true; the input reads as it did. -/
def fnValuesOfSpec : ChangeSpec := { name := "fnValuesOf", fn := fun _ => fun
  | [d] => { results := [.lit (.bool true)], args := [d] }
  | _ => none }
def fnValuesOfRow : OpenClaim := { program := "ytpgppbgbmhlacaa", sum := "5e8b5947951696b857c3c6689186ed667a243bf91b0371a8f7250f2f2a997dd2", func := "loop.example/witnessorders/laws.FnValuesOf", spec := "fnValuesOf", unfollowed := true, recurses := true, apart := false }
def FnValuesOfSaid : Prop := fnValuesOfRow.holds Try.pinned (OpenSpec.ofChange fnValuesOfSpec)

/-- ITS FALSE NEIGHBOUR: 'it returns false'. Refute it at one input. -/
def fnValuesOfWrong : ChangeSpec := { name := "fnValuesOf", fn := fun _ => fun
  | [d] => { results := [.lit (.bool false)], args := [d] }
  | _ => none }
def FnValuesOfWrongFalsely : Prop := fnValuesOfRow.holds Try.pinned (OpenSpec.ofChange fnValuesOfWrong)

/- THE SECOND FORM. 'bulk': how many values and letters a reading holds, each counted each time it is reached (what is shared counts as often as it is met; a slice's spare places count too). A statement '..UptoSaid' is the law's where the arguments, and the package variables that the reading takes, are together of bulk at most 1048576: NARROWER than '..Said'. Prove '..Said' where nothing that the law and all that it calls make is longer than what came in: it says more and counts as full. Else prove '..UptoSaid'. A law counts once. -/
mutual
def uptoBulk {H : Type} : DataW H → Nat
  | .lit (.string bytes) => bytes.length + 1
  | .lit _ => 1
  | .nil => 1
  | .ptr d => uptoBulk d + 1
  | .slice elems spare => uptoBulkAll elems + uptoBulkAll spare + 1
  | .agg parts => uptoBulkAll parts + 1
  | .iface _ d => uptoBulk d + 1
  | .map entries => uptoBulkEntries entries + 1
  | .held _ => 1
def uptoBulkAll {H : Type} : List (DataW H) → Nat
  | [] => 0
  | d :: r => uptoBulk d + uptoBulkAll r
def uptoBulkEntries {H : Type} : List (Lit × DataW H) → Nat
  | [] => 0
  | x :: r => uptoBulkEntry x + uptoBulkEntries r
def uptoBulkEntry {H : Type} : Lit × DataW H → Nat
  | (.string bytes, d) => bytes.length + uptoBulk d + 1
  | (_, d) => uptoBulk d + 1
 end
def uptoSmall : (H : Type) → List (DataW H) → Bool := fun _ ds => decide (uptoBulkAll ds ≤ 1048576)
def OpenSpec.upto (s : _root_.Go.ChangeSpec) : _root_.Go.OpenSpec := { _root_.Go.OpenSpec.ofChange s with cond := some uptoSmall }

/-- 'laws.FnTotalOf', WHERE WHAT IT READS IS OF BULK AT MOST 1048576: true; the input reads as it did. -/
def fnTotalOfUptoRow : OpenClaim := { program := "ytpgppbgbmhlacaa", sum := "5e8b5947951696b857c3c6689186ed667a243bf91b0371a8f7250f2f2a997dd2", func := "loop.example/witnessorders/laws.FnTotalOf", spec := "fnTotalOf", unfollowed := true, recurses := true, apart := false, narrowed := true }
def FnTotalOfUptoSaid : Prop := fnTotalOfUptoRow.holds Try.pinned (OpenSpec.upto fnTotalOfSpec)

/-- 'laws.FnValidCopy', WHERE WHAT IT READS IS OF BULK AT MOST 1048576: true; the input reads as it did. -/
def fnValidCopyUptoRow : OpenClaim := { program := "ytpgppbgbmhlacaa", sum := "5e8b5947951696b857c3c6689186ed667a243bf91b0371a8f7250f2f2a997dd2", func := "loop.example/witnessorders/laws.FnValidCopy", spec := "fnValidCopy", inPlace := ["slices.overlaps[loop.example/witnessorders/impl.Mark]"], unfollowed := true, recurses := true, apart := false, narrowed := true }
def FnValidCopyUptoSaid : Prop := fnValidCopyUptoRow.holds Try.pinned (OpenSpec.upto fnValidCopySpec)

/-- 'laws.FnWriteTo', WHERE WHAT IT READS IS OF BULK AT MOST 1048576: true; the input reads as it did. -/
def fnWriteToUptoRow : OpenClaim := { program := "ytpgppbgbmhlacaa", sum := "5e8b5947951696b857c3c6689186ed667a243bf91b0371a8f7250f2f2a997dd2", func := "loop.example/witnessorders/laws.FnWriteTo", spec := "fnWriteTo", inPlace := ["slices.overlaps[loop.example/witnessorders/impl.Mark]"], unfollowed := true, recurses := true, apart := false, narrowed := true }
def FnWriteToUptoSaid : Prop := fnWriteToUptoRow.holds Try.pinned (OpenSpec.upto fnWriteToSpec)

/-- 'laws.FnAddTo', WHERE WHAT IT READS IS OF BULK AT MOST 1048576: true; the input reads as it did. -/
def fnAddToUptoRow : OpenClaim := { program := "ytpgppbgbmhlacaa", sum := "5e8b5947951696b857c3c6689186ed667a243bf91b0371a8f7250f2f2a997dd2", func := "loop.example/witnessorders/laws.FnAddTo", spec := "fnAddTo", inPlace := ["slices.overlaps[loop.example/witnessorders/impl.Mark]"], unfollowed := true, recurses := true, apart := false, narrowed := true }
def FnAddToUptoSaid : Prop := fnAddToUptoRow.holds Try.pinned (OpenSpec.upto fnAddToSpec)

/-- 'laws.FnIsWithin', WHERE WHAT IT READS IS OF BULK AT MOST 1048576: true; the input reads as it did. -/
def fnIsWithinUptoRow : OpenClaim := { program := "ytpgppbgbmhlacaa", sum := "5e8b5947951696b857c3c6689186ed667a243bf91b0371a8f7250f2f2a997dd2", func := "loop.example/witnessorders/laws.FnIsWithin", spec := "fnIsWithin", inPlace := ["slices.overlaps[loop.example/witnessorders/impl.Mark]"], unfollowed := true, recurses := true, apart := false, narrowed := true }
def FnIsWithinUptoSaid : Prop := fnIsWithinUptoRow.holds Try.pinned (OpenSpec.upto fnIsWithinSpec)

/-- 'laws.FnValuesOf', WHERE WHAT IT READS IS OF BULK AT MOST 1048576: true; the input reads as it did. -/
def fnValuesOfUptoRow : OpenClaim := { program := "ytpgppbgbmhlacaa", sum := "5e8b5947951696b857c3c6689186ed667a243bf91b0371a8f7250f2f2a997dd2", func := "loop.example/witnessorders/laws.FnValuesOf", spec := "fnValuesOf", unfollowed := true, recurses := true, apart := false, narrowed := true }
def FnValuesOfUptoSaid : Prop := fnValuesOfUptoRow.holds Try.pinned (OpenSpec.upto fnValuesOfSpec)

end Rows
end Go.Proofs.Ytpgppbgbmhlacaa
