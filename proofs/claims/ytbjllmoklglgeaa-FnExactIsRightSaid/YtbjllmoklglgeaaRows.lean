/-
  No cell of these rows narrows 'for every input' (looked for: loops, veiled, ifaces, maps, wideKeys, modest, calm, conditions, laid).
  DERIVED. THE GIVEN ROWS OF THIS SEAT. 4 by the template 'for every input the law returns true; each argument reads behind the call as it read before'; 0 by the template 'total and deterministic' (their statements: YtbjllmoklglgeaaTotals.lean).
  GIVEN WITH THE SEED: the statements are not yours to turn. If you find one false, say at which input.
  Laid BY PROGRAM, IN A SANDBOX (cutbox-rows.mjs): the forced cells as the released guide's own fill.sh prints them over the translation 0e976184242ac0c2… (all of the seat's roots in one cut). By AI agents, Wed Nov 11 2026. No macro, syntax, notation, axiom, sorry.
-/
import Derived.Test.YtbjllmoklglgeaaChecked
import GoSem.Claim
import GoSem.ClaimJoined
import GoSem.ClaimMapViews
import Derived.JoinedTies
import Derived.KernelRfl
namespace Go.Proofs.Ytbjllmoklglgeaa
/- THE CELL 'sum', in the pinned program and in every row, IS THE sha256 OF THE DUMP (.gsa) THAT YtbjllmoklglgeaaProg.lean LOADS. Nothing in Lean hashes anything: it is a label: what it is worth is what the hold of that sum in a sandbox is worth. -/
noncomputable def Try.pinned : Pinned := { name := "ytbjllmoklglgeaa", sum := "0e976184242ac0c2108e1f0588e073fad263ff0526c67831735fb0d6162cd606", checked := Try.checked }
namespace Rows
def none {H : Type} : Left H := { results := [], args := [] }

/-- 'laws.FnExactIsRight': WHATEVER THE INPUT: true; the input reads as it did. -/
def fnExactIsRightSpec : ChangeSpec := { name := "fnExactIsRight", fn := fun _ => fun
  | [d1, d2, d3] => { results := [.lit (.bool true)], args := [d1, d2, d3] }
  | _ => none }
def fnExactIsRightRow : OpenClaim := { program := "ytbjllmoklglgeaa", sum := "0e976184242ac0c2108e1f0588e073fad263ff0526c67831735fb0d6162cd606", func := "loop.example/witnessorders/laws.FnExactIsRight", spec := "fnExactIsRight", apart := false }
def FnExactIsRightSaid : Prop := fnExactIsRightRow.holds Try.pinned (OpenSpec.ofChange fnExactIsRightSpec)

/-- ITS FALSE NEIGHBOUR: 'it returns false'. Refute it at one input. -/
def fnExactIsRightWrong : ChangeSpec := { name := "fnExactIsRight", fn := fun _ => fun
  | [d1, d2, d3] => { results := [.lit (.bool false)], args := [d1, d2, d3] }
  | _ => none }
def FnExactIsRightWrongFalsely : Prop := fnExactIsRightRow.holds Try.pinned (OpenSpec.ofChange fnExactIsRightWrong)

/-- 'laws.FnExactIsLinear': WHATEVER THE INPUT: true; the input reads as it did. -/
def fnExactIsLinearSpec : ChangeSpec := { name := "fnExactIsLinear", fn := fun _ => fun
  | [d1, d2] => { results := [.lit (.bool true)], args := [d1, d2] }
  | _ => none }
def fnExactIsLinearRow : OpenClaim := { program := "ytbjllmoklglgeaa", sum := "0e976184242ac0c2108e1f0588e073fad263ff0526c67831735fb0d6162cd606", func := "loop.example/witnessorders/laws.FnExactIsLinear", spec := "fnExactIsLinear", unfollowed := true, recurses := true, apart := false }
def FnExactIsLinearSaid : Prop := fnExactIsLinearRow.holds Try.pinned (OpenSpec.ofChange fnExactIsLinearSpec)

/-- ITS FALSE NEIGHBOUR: 'it returns false'. Refute it at one input. -/
def fnExactIsLinearWrong : ChangeSpec := { name := "fnExactIsLinear", fn := fun _ => fun
  | [d1, d2] => { results := [.lit (.bool false)], args := [d1, d2] }
  | _ => none }
def FnExactIsLinearWrongFalsely : Prop := fnExactIsLinearRow.holds Try.pinned (OpenSpec.ofChange fnExactIsLinearWrong)

/-- 'laws.FnExactIsOwn': WHATEVER THE INPUT: true; the input reads as it did. -/
def fnExactIsOwnSpec : ChangeSpec := { name := "fnExactIsOwn", fn := fun _ => fun
  | [d1, d2] => { results := [.lit (.bool true)], args := [d1, d2] }
  | _ => none }
def fnExactIsOwnRow : OpenClaim := { program := "ytbjllmoklglgeaa", sum := "0e976184242ac0c2108e1f0588e073fad263ff0526c67831735fb0d6162cd606", func := "loop.example/witnessorders/laws.FnExactIsOwn", spec := "fnExactIsOwn", unfollowed := true, recurses := true, apart := false }
def FnExactIsOwnSaid : Prop := fnExactIsOwnRow.holds Try.pinned (OpenSpec.ofChange fnExactIsOwnSpec)

/-- ITS FALSE NEIGHBOUR: 'it returns false'. Refute it at one input. -/
def fnExactIsOwnWrong : ChangeSpec := { name := "fnExactIsOwn", fn := fun _ => fun
  | [d1, d2] => { results := [.lit (.bool false)], args := [d1, d2] }
  | _ => none }
def FnExactIsOwnWrongFalsely : Prop := fnExactIsOwnRow.holds Try.pinned (OpenSpec.ofChange fnExactIsOwnWrong)

/-- 'laws.FnExactIsQuiet': WHATEVER THE INPUT: true; the input reads as it did. -/
def fnExactIsQuietSpec : ChangeSpec := { name := "fnExactIsQuiet", fn := fun _ => fun
  | [d1, d2] => { results := [.lit (.bool true)], args := [d1, d2] }
  | _ => none }
def fnExactIsQuietRow : OpenClaim := { program := "ytbjllmoklglgeaa", sum := "0e976184242ac0c2108e1f0588e073fad263ff0526c67831735fb0d6162cd606", func := "loop.example/witnessorders/laws.FnExactIsQuiet", spec := "fnExactIsQuiet", unfollowed := true, recurses := true, apart := false }
def FnExactIsQuietSaid : Prop := fnExactIsQuietRow.holds Try.pinned (OpenSpec.ofChange fnExactIsQuietSpec)

/-- ITS FALSE NEIGHBOUR: 'it returns false'. Refute it at one input. -/
def fnExactIsQuietWrong : ChangeSpec := { name := "fnExactIsQuiet", fn := fun _ => fun
  | [d1, d2] => { results := [.lit (.bool false)], args := [d1, d2] }
  | _ => none }
def FnExactIsQuietWrongFalsely : Prop := fnExactIsQuietRow.holds Try.pinned (OpenSpec.ofChange fnExactIsQuietWrong)

/- THE SECOND FORM. 'bulk': how many values and letters a reading holds, each counted each time it is reached (what is shared counts as often as it is met; a slice's spare places count too). A statement '..UptoSaid' is the law's where the arguments, and the package variables that the reading takes, are together of bulk at most 1048576: NARROWER than '..Said'. Prove '..Said' where nothing that the law and all that it calls make is longer than what came in: it says more and counts as full. Else prove '..UptoSaid'. A law counts once. -/
mutual
def uptoBulk {H : Type} : DataW H → Nat
  | .lit (.string bytes) => bytes.length + 1
  | .lit _ => 1
  | .nil => 1
  | .ptr d => uptoBulk d + 1
  | .slice elems spare => uptoBulkAll elems + uptoBulkAll spare + 1
  | .agg parts => uptoBulkAll parts + 1
  | .iface _ d => uptoBulk d + 1
  | .map entries => uptoBulkEntries entries + 1
  | .held _ => 1
def uptoBulkAll {H : Type} : List (DataW H) → Nat
  | [] => 0
  | d :: r => uptoBulk d + uptoBulkAll r
def uptoBulkEntries {H : Type} : List (Lit × DataW H) → Nat
  | [] => 0
  | x :: r => uptoBulkEntry x + uptoBulkEntries r
def uptoBulkEntry {H : Type} : Lit × DataW H → Nat
  | (.string bytes, d) => bytes.length + uptoBulk d + 1
  | (_, d) => uptoBulk d + 1
 end
def uptoSmall : (H : Type) → List (DataW H) → Bool := fun _ ds => decide (uptoBulkAll ds ≤ 1048576)
def OpenSpec.upto (s : _root_.Go.ChangeSpec) : _root_.Go.OpenSpec := { _root_.Go.OpenSpec.ofChange s with cond := some uptoSmall }

/-- 'laws.FnExactIsRight', WHERE WHAT IT READS IS OF BULK AT MOST 1048576: true; the input reads as it did. -/
def fnExactIsRightUptoRow : OpenClaim := { program := "ytbjllmoklglgeaa", sum := "0e976184242ac0c2108e1f0588e073fad263ff0526c67831735fb0d6162cd606", func := "loop.example/witnessorders/laws.FnExactIsRight", spec := "fnExactIsRight", apart := false, narrowed := true }
def FnExactIsRightUptoSaid : Prop := fnExactIsRightUptoRow.holds Try.pinned (OpenSpec.upto fnExactIsRightSpec)

/-- 'laws.FnExactIsLinear', WHERE WHAT IT READS IS OF BULK AT MOST 1048576: true; the input reads as it did. -/
def fnExactIsLinearUptoRow : OpenClaim := { program := "ytbjllmoklglgeaa", sum := "0e976184242ac0c2108e1f0588e073fad263ff0526c67831735fb0d6162cd606", func := "loop.example/witnessorders/laws.FnExactIsLinear", spec := "fnExactIsLinear", unfollowed := true, recurses := true, apart := false, narrowed := true }
def FnExactIsLinearUptoSaid : Prop := fnExactIsLinearUptoRow.holds Try.pinned (OpenSpec.upto fnExactIsLinearSpec)

/-- 'laws.FnExactIsOwn', WHERE WHAT IT READS IS OF BULK AT MOST 1048576: true; the input reads as it did. -/
def fnExactIsOwnUptoRow : OpenClaim := { program := "ytbjllmoklglgeaa", sum := "0e976184242ac0c2108e1f0588e073fad263ff0526c67831735fb0d6162cd606", func := "loop.example/witnessorders/laws.FnExactIsOwn", spec := "fnExactIsOwn", unfollowed := true, recurses := true, apart := false, narrowed := true }
def FnExactIsOwnUptoSaid : Prop := fnExactIsOwnUptoRow.holds Try.pinned (OpenSpec.upto fnExactIsOwnSpec)

/-- 'laws.FnExactIsQuiet', WHERE WHAT IT READS IS OF BULK AT MOST 1048576: true; the input reads as it did. -/
def fnExactIsQuietUptoRow : OpenClaim := { program := "ytbjllmoklglgeaa", sum := "0e976184242ac0c2108e1f0588e073fad263ff0526c67831735fb0d6162cd606", func := "loop.example/witnessorders/laws.FnExactIsQuiet", spec := "fnExactIsQuiet", unfollowed := true, recurses := true, apart := false, narrowed := true }
def FnExactIsQuietUptoSaid : Prop := fnExactIsQuietUptoRow.holds Try.pinned (OpenSpec.upto fnExactIsQuietSpec)

end Rows
end Go.Proofs.Ytbjllmoklglgeaa
