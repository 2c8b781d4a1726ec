/-
  No cell of these rows narrows 'for every input' (looked for: loops, veiled, ifaces, maps, wideKeys, modest, calm, conditions, laid).
  DERIVED. THE GIVEN ROWS OF THIS SEAT. 3 by the template 'for every input the law returns true; each argument reads behind the call as it read before'; 0 by the template 'total and deterministic' (their statements: YtfoifegcfbglpaaTotals.lean).
  GIVEN WITH THE SEED: the statements are not yours to turn. If you find one false, say at which input.
  Laid BY PROGRAM, IN A SANDBOX (cutbox-rows.mjs): the forced cells as the released guide's own fill.sh prints them over the translation 78f4cad80f94d898… (all of the seat's roots in one cut). By AI agents, Wed Nov 11 2026. No macro, syntax, notation, axiom, sorry.
-/
import Derived.Test.YtfoifegcfbglpaaChecked
import GoSem.Claim
import GoSem.ClaimJoined
import GoSem.ClaimMapViews
import Derived.JoinedTies
import Derived.KernelRfl
namespace Go.Proofs.Ytfoifegcfbglpaa
/- THE CELL 'sum', in the pinned program and in every row, IS THE sha256 OF THE DUMP (.gsa) THAT YtfoifegcfbglpaaProg.lean LOADS. Nothing in Lean hashes anything: it is a label: what it is worth is what the hold of that sum in a sandbox is worth. -/
noncomputable def Try.pinned : Pinned := { name := "ytfoifegcfbglpaa", sum := "78f4cad80f94d898aa3569f616499255ecfa29a91a88b93b77d957ffdb9c7db2", checked := Try.checked }
namespace Rows
def none {H : Type} : Left H := { results := [], args := [] }

/-- 'laws.FnMergeCopies': WHATEVER THE INPUT: true; the input reads as it did. -/
def fnMergeCopiesSpec : ChangeSpec := { name := "fnMergeCopies", fn := fun _ => fun
  | [d] => { results := [.lit (.bool true)], args := [d] }
  | _ => none }
def fnMergeCopiesRow : OpenClaim := { program := "ytfoifegcfbglpaa", sum := "78f4cad80f94d898aa3569f616499255ecfa29a91a88b93b77d957ffdb9c7db2", func := "loop.example/witnessorders/laws.FnMergeCopies", spec := "fnMergeCopies", inPlace := ["slices.overlaps[loop.example/witnessorders/impl.Mark]"], unfollowed := true, recurses := true, apart := false }
def FnMergeCopiesSaid : Prop := fnMergeCopiesRow.holds Try.pinned (OpenSpec.ofChange fnMergeCopiesSpec)

/-- ITS FALSE NEIGHBOUR: 'it returns false'. Refute it at one input. -/
def fnMergeCopiesWrong : ChangeSpec := { name := "fnMergeCopies", fn := fun _ => fun
  | [d] => { results := [.lit (.bool false)], args := [d] }
  | _ => none }
def FnMergeCopiesWrongFalsely : Prop := fnMergeCopiesRow.holds Try.pinned (OpenSpec.ofChange fnMergeCopiesWrong)

/-- 'laws.FnTakeOut': WHATEVER THE INPUT: true; the input reads as it did. -/
def fnTakeOutSpec : ChangeSpec := { name := "fnTakeOut", fn := fun _ => fun
  | [d] => { results := [.lit (.bool true)], args := [d] }
  | _ => none }
def fnTakeOutRow : OpenClaim := { program := "ytfoifegcfbglpaa", sum := "78f4cad80f94d898aa3569f616499255ecfa29a91a88b93b77d957ffdb9c7db2", func := "loop.example/witnessorders/laws.FnTakeOut", spec := "fnTakeOut", inPlace := ["slices.overlaps[loop.example/witnessorders/impl.Mark]"], unfollowed := true, recurses := true, apart := false }
def FnTakeOutSaid : Prop := fnTakeOutRow.holds Try.pinned (OpenSpec.ofChange fnTakeOutSpec)

/-- ITS FALSE NEIGHBOUR: 'it returns false'. Refute it at one input. -/
def fnTakeOutWrong : ChangeSpec := { name := "fnTakeOut", fn := fun _ => fun
  | [d] => { results := [.lit (.bool false)], args := [d] }
  | _ => none }
def FnTakeOutWrongFalsely : Prop := fnTakeOutRow.holds Try.pinned (OpenSpec.ofChange fnTakeOutWrong)

/-- 'laws.FnPutIn': WHATEVER THE INPUT: true; the input reads as it did. -/
def fnPutInSpec : ChangeSpec := { name := "fnPutIn", fn := fun _ => fun
  | [d] => { results := [.lit (.bool true)], args := [d] }
  | _ => none }
def fnPutInRow : OpenClaim := { program := "ytfoifegcfbglpaa", sum := "78f4cad80f94d898aa3569f616499255ecfa29a91a88b93b77d957ffdb9c7db2", func := "loop.example/witnessorders/laws.FnPutIn", spec := "fnPutIn", inPlace := ["slices.overlaps[loop.example/witnessorders/impl.Mark]"], unfollowed := true, recurses := true, apart := false }
def FnPutInSaid : Prop := fnPutInRow.holds Try.pinned (OpenSpec.ofChange fnPutInSpec)

/-- ITS FALSE NEIGHBOUR: 'it returns false'. Refute it at one input. -/
def fnPutInWrong : ChangeSpec := { name := "fnPutIn", fn := fun _ => fun
  | [d] => { results := [.lit (.bool false)], args := [d] }
  | _ => none }
def FnPutInWrongFalsely : Prop := fnPutInRow.holds Try.pinned (OpenSpec.ofChange fnPutInWrong)

/- THE SECOND FORM. 'bulk': how many values and letters a reading holds, each counted each time it is reached (what is shared counts as often as it is met; a slice's spare places count too). A statement '..UptoSaid' is the law's where the arguments, and the package variables that the reading takes, are together of bulk at most 1048576: NARROWER than '..Said'. Prove '..Said' where nothing that the law and all that it calls make is longer than what came in: it says more and counts as full. Else prove '..UptoSaid'. A law counts once. -/
mutual
def uptoBulk {H : Type} : DataW H → Nat
  | .lit (.string bytes) => bytes.length + 1
  | .lit _ => 1
  | .nil => 1
  | .ptr d => uptoBulk d + 1
  | .slice elems spare => uptoBulkAll elems + uptoBulkAll spare + 1
  | .agg parts => uptoBulkAll parts + 1
  | .iface _ d => uptoBulk d + 1
  | .map entries => uptoBulkEntries entries + 1
  | .held _ => 1
def uptoBulkAll {H : Type} : List (DataW H) → Nat
  | [] => 0
  | d :: r => uptoBulk d + uptoBulkAll r
def uptoBulkEntries {H : Type} : List (Lit × DataW H) → Nat
  | [] => 0
  | x :: r => uptoBulkEntry x + uptoBulkEntries r
def uptoBulkEntry {H : Type} : Lit × DataW H → Nat
  | (.string bytes, d) => bytes.length + uptoBulk d + 1
  | (_, d) => uptoBulk d + 1
 end
def uptoSmall : (H : Type) → List (DataW H) → Bool := fun _ ds => decide (uptoBulkAll ds ≤ 1048576)
def OpenSpec.upto (s : _root_.Go.ChangeSpec) : _root_.Go.OpenSpec := { _root_.Go.OpenSpec.ofChange s with cond := some uptoSmall }

/-- 'laws.FnMergeCopies', WHERE WHAT IT READS IS OF BULK AT MOST 1048576: true; the input reads as it did. -/
def fnMergeCopiesUptoRow : OpenClaim := { program := "ytfoifegcfbglpaa", sum := "78f4cad80f94d898aa3569f616499255ecfa29a91a88b93b77d957ffdb9c7db2", func := "loop.example/witnessorders/laws.FnMergeCopies", spec := "fnMergeCopies", inPlace := ["slices.overlaps[loop.example/witnessorders/impl.Mark]"], unfollowed := true, recurses := true, apart := false, narrowed := true }
def FnMergeCopiesUptoSaid : Prop := fnMergeCopiesUptoRow.holds Try.pinned (OpenSpec.upto fnMergeCopiesSpec)

/-- 'laws.FnTakeOut', WHERE WHAT IT READS IS OF BULK AT MOST 1048576: true; the input reads as it did. -/
def fnTakeOutUptoRow : OpenClaim := { program := "ytfoifegcfbglpaa", sum := "78f4cad80f94d898aa3569f616499255ecfa29a91a88b93b77d957ffdb9c7db2", func := "loop.example/witnessorders/laws.FnTakeOut", spec := "fnTakeOut", inPlace := ["slices.overlaps[loop.example/witnessorders/impl.Mark]"], unfollowed := true, recurses := true, apart := false, narrowed := true }
def FnTakeOutUptoSaid : Prop := fnTakeOutUptoRow.holds Try.pinned (OpenSpec.upto fnTakeOutSpec)

/-- 'laws.FnPutIn', WHERE WHAT IT READS IS OF BULK AT MOST 1048576: true; the input reads as it did. -/
def fnPutInUptoRow : OpenClaim := { program := "ytfoifegcfbglpaa", sum := "78f4cad80f94d898aa3569f616499255ecfa29a91a88b93b77d957ffdb9c7db2", func := "loop.example/witnessorders/laws.FnPutIn", spec := "fnPutIn", inPlace := ["slices.overlaps[loop.example/witnessorders/impl.Mark]"], unfollowed := true, recurses := true, apart := false, narrowed := true }
def FnPutInUptoSaid : Prop := fnPutInUptoRow.holds Try.pinned (OpenSpec.upto fnPutInSpec)

end Rows
end Go.Proofs.Ytfoifegcfbglpaa
