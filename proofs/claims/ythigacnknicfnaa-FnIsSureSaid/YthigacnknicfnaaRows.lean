/-
  No cell of these rows narrows 'for every input' (looked for: loops, veiled, ifaces, maps, wideKeys, modest, calm, conditions, laid).
  DERIVED. THE GIVEN ROWS OF THIS SEAT. 2 by the template 'for every input the law returns true; each argument reads behind the call as it read before'; 0 by the template 'total and deterministic' (their statements: YthigacnknicfnaaTotals.lean).
  GIVEN WITH THE SEED: the statements are not yours to turn. If you find one false, say at which input.
  Laid BY PROGRAM, IN A SANDBOX (cutbox-rows.mjs): the forced cells as the released guide's own fill.sh prints them over the translation 8e21598fbc119f8b… (all of the seat's roots in one cut). By AI agents, Wed Nov 11 2026. No macro, syntax, notation, axiom, sorry.
-/
import Derived.Test.YthigacnknicfnaaChecked
import GoSem.Claim
import GoSem.ClaimJoined
import GoSem.ClaimMapViews
import Derived.JoinedTies
import Derived.KernelRfl
namespace Go.Proofs.Ythigacnknicfnaa
/- THE CELL 'sum', in the pinned program and in every row, IS THE sha256 OF THE DUMP (.gsa) THAT YthigacnknicfnaaProg.lean LOADS. Nothing in Lean hashes anything: it is a label: what it is worth is what the hold of that sum in a sandbox is worth. -/
noncomputable def Try.pinned : Pinned := { name := "ythigacnknicfnaa", sum := "8e21598fbc119f8bbe99e08a0c591ad689821afdf5ded85408f2c495f73d504d", checked := Try.checked }
namespace Rows
def none {H : Type} : Left H := { results := [], args := [] }

/-- 'laws.FnMarkedCuts': WHATEVER THE INPUT: true; the input reads as it did. -/
def fnMarkedCutsSpec : ChangeSpec := { name := "fnMarkedCuts", fn := fun _ => fun
  | [d] => { results := [.lit (.bool true)], args := [d] }
  | _ => none }
def fnMarkedCutsRow : OpenClaim := { program := "ythigacnknicfnaa", sum := "8e21598fbc119f8bbe99e08a0c591ad689821afdf5ded85408f2c495f73d504d", func := "loop.example/witnessorders/laws.FnMarkedCuts", spec := "fnMarkedCuts", unfollowed := true, recurses := true, apart := false }
def FnMarkedCutsSaid : Prop := fnMarkedCutsRow.holds Try.pinned (OpenSpec.ofChange fnMarkedCutsSpec)

/-- ITS FALSE NEIGHBOUR: 'it returns false'. Refute it at one input. -/
def fnMarkedCutsWrong : ChangeSpec := { name := "fnMarkedCuts", fn := fun _ => fun
  | [d] => { results := [.lit (.bool false)], args := [d] }
  | _ => none }
def FnMarkedCutsWrongFalsely : Prop := fnMarkedCutsRow.holds Try.pinned (OpenSpec.ofChange fnMarkedCutsWrong)

/-- 'laws.FnIsSure': WHATEVER THE INPUT: true; the input reads as it did. -/
def fnIsSureSpec : ChangeSpec := { name := "fnIsSure", fn := fun _ => fun
  | [d] => { results := [.lit (.bool true)], args := [d] }
  | _ => none }
def fnIsSureRow : OpenClaim := { program := "ythigacnknicfnaa", sum := "8e21598fbc119f8bbe99e08a0c591ad689821afdf5ded85408f2c495f73d504d", func := "loop.example/witnessorders/laws.FnIsSure", spec := "fnIsSure", unfollowed := true, recurses := true, apart := false }
def FnIsSureSaid : Prop := fnIsSureRow.holds Try.pinned (OpenSpec.ofChange fnIsSureSpec)

/-- ITS FALSE NEIGHBOUR: 'it returns false'. Refute it at one input. -/
def fnIsSureWrong : ChangeSpec := { name := "fnIsSure", fn := fun _ => fun
  | [d] => { results := [.lit (.bool false)], args := [d] }
  | _ => none }
def FnIsSureWrongFalsely : Prop := fnIsSureRow.holds Try.pinned (OpenSpec.ofChange fnIsSureWrong)

/- THE SECOND FORM. 'bulk': how many values and letters a reading holds, each counted each time it is reached (what is shared counts as often as it is met; a slice's spare places count too). A statement '..UptoSaid' is the law's where the arguments, and the package variables that the reading takes, are together of bulk at most 1048576: NARROWER than '..Said'. Prove '..Said' where nothing that the law and all that it calls make is longer than what came in: it says more and counts as full. Else prove '..UptoSaid'. A law counts once. -/
mutual
def uptoBulk {H : Type} : DataW H → Nat
  | .lit (.string bytes) => bytes.length + 1
  | .lit _ => 1
  | .nil => 1
  | .ptr d => uptoBulk d + 1
  | .slice elems spare => uptoBulkAll elems + uptoBulkAll spare + 1
  | .agg parts => uptoBulkAll parts + 1
  | .iface _ d => uptoBulk d + 1
  | .map entries => uptoBulkEntries entries + 1
  | .held _ => 1
def uptoBulkAll {H : Type} : List (DataW H) → Nat
  | [] => 0
  | d :: r => uptoBulk d + uptoBulkAll r
def uptoBulkEntries {H : Type} : List (Lit × DataW H) → Nat
  | [] => 0
  | x :: r => uptoBulkEntry x + uptoBulkEntries r
def uptoBulkEntry {H : Type} : Lit × DataW H → Nat
  | (.string bytes, d) => bytes.length + uptoBulk d + 1
  | (_, d) => uptoBulk d + 1
 end
def uptoSmall : (H : Type) → List (DataW H) → Bool := fun _ ds => decide (uptoBulkAll ds ≤ 1048576)
def OpenSpec.upto (s : _root_.Go.ChangeSpec) : _root_.Go.OpenSpec := { _root_.Go.OpenSpec.ofChange s with cond := some uptoSmall }

/-- 'laws.FnMarkedCuts', WHERE WHAT IT READS IS OF BULK AT MOST 1048576: true; the input reads as it did. -/
def fnMarkedCutsUptoRow : OpenClaim := { program := "ythigacnknicfnaa", sum := "8e21598fbc119f8bbe99e08a0c591ad689821afdf5ded85408f2c495f73d504d", func := "loop.example/witnessorders/laws.FnMarkedCuts", spec := "fnMarkedCuts", unfollowed := true, recurses := true, apart := false, narrowed := true }
def FnMarkedCutsUptoSaid : Prop := fnMarkedCutsUptoRow.holds Try.pinned (OpenSpec.upto fnMarkedCutsSpec)

/-- 'laws.FnIsSure', WHERE WHAT IT READS IS OF BULK AT MOST 1048576: true; the input reads as it did. -/
def fnIsSureUptoRow : OpenClaim := { program := "ythigacnknicfnaa", sum := "8e21598fbc119f8bbe99e08a0c591ad689821afdf5ded85408f2c495f73d504d", func := "loop.example/witnessorders/laws.FnIsSure", spec := "fnIsSure", unfollowed := true, recurses := true, apart := false, narrowed := true }
def FnIsSureUptoSaid : Prop := fnIsSureUptoRow.holds Try.pinned (OpenSpec.upto fnIsSureSpec)

end Rows
end Go.Proofs.Ythigacnknicfnaa
