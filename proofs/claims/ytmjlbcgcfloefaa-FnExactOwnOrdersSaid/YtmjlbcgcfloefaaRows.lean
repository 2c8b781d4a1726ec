/-
  No cell of these rows narrows 'for every input' (looked for: loops, veiled, ifaces, maps, wideKeys, modest, calm, conditions, laid).
  DERIVED. THE GIVEN ROWS OF THIS SEAT. 3 by the template 'for every input the law returns true; each argument reads behind the call as it read before'; 0 by the template 'total and deterministic' (their statements: YtmjlbcgcfloefaaTotals.lean).
  GIVEN WITH THE SEED: the statements are not yours to turn. If you find one false, say at which input.
  Laid BY PROGRAM, IN A SANDBOX (cutbox-rows.mjs): the forced cells as the released guide's own fill.sh prints them over the translation c7738f78e590c30b… (all of the seat's roots in one cut). By AI agents, Wed Nov 11 2026. No macro, syntax, notation, axiom, sorry.
-/
import Derived.Test.YtmjlbcgcfloefaaChecked
import GoSem.Claim
import GoSem.ClaimJoined
import GoSem.ClaimMapViews
import Derived.JoinedTies
import Derived.KernelRfl
namespace Go.Proofs.Ytmjlbcgcfloefaa
/- THE CELL 'sum', in the pinned program and in every row, IS THE sha256 OF THE DUMP (.gsa) THAT YtmjlbcgcfloefaaProg.lean LOADS. Nothing in Lean hashes anything: it is a label: what it is worth is what the hold of that sum in a sandbox is worth. -/
noncomputable def Try.pinned : Pinned := { name := "ytmjlbcgcfloefaa", sum := "c7738f78e590c30b208b40ae2b9676c33e48c4cef6d944556edde7da839380a6", checked := Try.checked }
namespace Rows
def none {H : Type} : Left H := { results := [], args := [] }

/-- 'laws.FnExactStateBehind': WHATEVER THE INPUT: true; the input reads as it did. -/
def fnExactStateBehindSpec : ChangeSpec := { name := "fnExactStateBehind", fn := fun _ => fun
  | [d1, d2, d3, d4] => { results := [.lit (.bool true)], args := [d1, d2, d3, d4] }
  | _ => none }
def fnExactStateBehindRow : OpenClaim := { program := "ytmjlbcgcfloefaa", sum := "c7738f78e590c30b208b40ae2b9676c33e48c4cef6d944556edde7da839380a6", func := "loop.example/witnessorders/laws.FnExactStateBehind", spec := "fnExactStateBehind", apart := false }
def FnExactStateBehindSaid : Prop := fnExactStateBehindRow.holds Try.pinned (OpenSpec.ofChange fnExactStateBehindSpec)

/-- ITS FALSE NEIGHBOUR: 'it returns false'. Refute it at one input. -/
def fnExactStateBehindWrong : ChangeSpec := { name := "fnExactStateBehind", fn := fun _ => fun
  | [d1, d2, d3, d4] => { results := [.lit (.bool false)], args := [d1, d2, d3, d4] }
  | _ => none }
def FnExactStateBehindWrongFalsely : Prop := fnExactStateBehindRow.holds Try.pinned (OpenSpec.ofChange fnExactStateBehindWrong)

/-- 'laws.FnExactLinearOrders': WHATEVER THE INPUT: true; the input reads as it did. -/
def fnExactLinearOrdersSpec : ChangeSpec := { name := "fnExactLinearOrders", fn := fun _ => fun
  | [d1, d2] => { results := [.lit (.bool true)], args := [d1, d2] }
  | _ => none }
def fnExactLinearOrdersRow : OpenClaim := { program := "ytmjlbcgcfloefaa", sum := "c7738f78e590c30b208b40ae2b9676c33e48c4cef6d944556edde7da839380a6", func := "loop.example/witnessorders/laws.FnExactLinearOrders", spec := "fnExactLinearOrders", unfollowed := true, recurses := true, apart := false }
def FnExactLinearOrdersSaid : Prop := fnExactLinearOrdersRow.holds Try.pinned (OpenSpec.ofChange fnExactLinearOrdersSpec)

/-- ITS FALSE NEIGHBOUR: 'it returns false'. Refute it at one input. -/
def fnExactLinearOrdersWrong : ChangeSpec := { name := "fnExactLinearOrders", fn := fun _ => fun
  | [d1, d2] => { results := [.lit (.bool false)], args := [d1, d2] }
  | _ => none }
def FnExactLinearOrdersWrongFalsely : Prop := fnExactLinearOrdersRow.holds Try.pinned (OpenSpec.ofChange fnExactLinearOrdersWrong)

/-- 'laws.FnExactOwnOrders': WHATEVER THE INPUT: true; the input reads as it did. -/
def fnExactOwnOrdersSpec : ChangeSpec := { name := "fnExactOwnOrders", fn := fun _ => fun
  | [d1, d2] => { results := [.lit (.bool true)], args := [d1, d2] }
  | _ => none }
def fnExactOwnOrdersRow : OpenClaim := { program := "ytmjlbcgcfloefaa", sum := "c7738f78e590c30b208b40ae2b9676c33e48c4cef6d944556edde7da839380a6", func := "loop.example/witnessorders/laws.FnExactOwnOrders", spec := "fnExactOwnOrders", unfollowed := true, recurses := true, apart := false }
def FnExactOwnOrdersSaid : Prop := fnExactOwnOrdersRow.holds Try.pinned (OpenSpec.ofChange fnExactOwnOrdersSpec)

/-- ITS FALSE NEIGHBOUR: 'it returns false'. Refute it at one input. -/
def fnExactOwnOrdersWrong : ChangeSpec := { name := "fnExactOwnOrders", fn := fun _ => fun
  | [d1, d2] => { results := [.lit (.bool false)], args := [d1, d2] }
  | _ => none }
def FnExactOwnOrdersWrongFalsely : Prop := fnExactOwnOrdersRow.holds Try.pinned (OpenSpec.ofChange fnExactOwnOrdersWrong)

/- THE SECOND FORM. 'bulk': how many values and letters a reading holds, each counted each time it is reached (what is shared counts as often as it is met; a slice's spare places count too). A statement '..UptoSaid' is the law's where the arguments, and the package variables that the reading takes, are together of bulk at most 1048576: NARROWER than '..Said'. Prove '..Said' where nothing that the law and all that it calls make is longer than what came in: it says more and counts as full. Else prove '..UptoSaid'. A law counts once. -/
mutual
def uptoBulk {H : Type} : DataW H → Nat
  | .lit (.string bytes) => bytes.length + 1
  | .lit _ => 1
  | .nil => 1
  | .ptr d => uptoBulk d + 1
  | .slice elems spare => uptoBulkAll elems + uptoBulkAll spare + 1
  | .agg parts => uptoBulkAll parts + 1
  | .iface _ d => uptoBulk d + 1
  | .map entries => uptoBulkEntries entries + 1
  | .held _ => 1
def uptoBulkAll {H : Type} : List (DataW H) → Nat
  | [] => 0
  | d :: r => uptoBulk d + uptoBulkAll r
def uptoBulkEntries {H : Type} : List (Lit × DataW H) → Nat
  | [] => 0
  | x :: r => uptoBulkEntry x + uptoBulkEntries r
def uptoBulkEntry {H : Type} : Lit × DataW H → Nat
  | (.string bytes, d) => bytes.length + uptoBulk d + 1
  | (_, d) => uptoBulk d + 1
 end
def uptoSmall : (H : Type) → List (DataW H) → Bool := fun _ ds => decide (uptoBulkAll ds ≤ 1048576)
def OpenSpec.upto (s : _root_.Go.ChangeSpec) : _root_.Go.OpenSpec := { _root_.Go.OpenSpec.ofChange s with cond := some uptoSmall }

/-- 'laws.FnExactStateBehind', WHERE WHAT IT READS IS OF BULK AT MOST 1048576: true; the input reads as it did. -/
def fnExactStateBehindUptoRow : OpenClaim := { program := "ytmjlbcgcfloefaa", sum := "c7738f78e590c30b208b40ae2b9676c33e48c4cef6d944556edde7da839380a6", func := "loop.example/witnessorders/laws.FnExactStateBehind", spec := "fnExactStateBehind", apart := false, narrowed := true }
def FnExactStateBehindUptoSaid : Prop := fnExactStateBehindUptoRow.holds Try.pinned (OpenSpec.upto fnExactStateBehindSpec)

/-- 'laws.FnExactLinearOrders', WHERE WHAT IT READS IS OF BULK AT MOST 1048576: true; the input reads as it did. -/
def fnExactLinearOrdersUptoRow : OpenClaim := { program := "ytmjlbcgcfloefaa", sum := "c7738f78e590c30b208b40ae2b9676c33e48c4cef6d944556edde7da839380a6", func := "loop.example/witnessorders/laws.FnExactLinearOrders", spec := "fnExactLinearOrders", unfollowed := true, recurses := true, apart := false, narrowed := true }
def FnExactLinearOrdersUptoSaid : Prop := fnExactLinearOrdersUptoRow.holds Try.pinned (OpenSpec.upto fnExactLinearOrdersSpec)

/-- 'laws.FnExactOwnOrders', WHERE WHAT IT READS IS OF BULK AT MOST 1048576: true; the input reads as it did. -/
def fnExactOwnOrdersUptoRow : OpenClaim := { program := "ytmjlbcgcfloefaa", sum := "c7738f78e590c30b208b40ae2b9676c33e48c4cef6d944556edde7da839380a6", func := "loop.example/witnessorders/laws.FnExactOwnOrders", spec := "fnExactOwnOrders", unfollowed := true, recurses := true, apart := false, narrowed := true }
def FnExactOwnOrdersUptoSaid : Prop := fnExactOwnOrdersUptoRow.holds Try.pinned (OpenSpec.upto fnExactOwnOrdersSpec)

end Rows
end Go.Proofs.Ytmjlbcgcfloefaa
