import Derived.Test.YthjkiipikpiepaaDS
import Derived.Test.YthjkiipikpiepaaM9
import Derived.Test.YthjkiipikpiepaaDP23zero
import Derived.Test.YthjkiipikpiepaaDP22zero
set_option linter.unusedSimpArgs false
set_option linter.unusedVariables false
namespace Go.Proofs.Try
open Go.Ab Go.RowKit
/-- slices.Sort[[]int,int]@0 -/
def fs16zero : FnS := fnS [.s .ints] [.ints] (fun _ (l, _) => (.tup [], [], (l.length = 0)))
abbrev T16zero : Tab := lk [(22, fs22zero), (23, fs23zero)]
theorem tab16zero : TabOK prog T16zero := (TabOK.cons ok22zero ent22zero (TabOK.cons ok23zero ent23zero TabOK.nil))
set_option maxRecDepth 100000 in
set_option maxHeartbeats 1000000 in
theorem ok16zero : FnOK prog 16 fs16zero := by
  refine FnOK.mk cok func16 rfl rfl rfl ?_
  rintro fl ⟨(l : List Int), _⟩ hpre F hnt0 _
  have hnt : F.nt = 11 := hnt0.trans ntmps16
  replace hpre : (l.length = 0) := hpre
  have hl := hpre
  refine W.to (⟨[(0, .sl (.ints l))], [], [999]⟩) rfl ?_
  refine W.lenOf 0 (.ints l) (by kernel_rfl) ?_
  intro hl_l; replace hl_l : List.length l ≤ 9223372036854775807 := hl_l
  refine W.K cok tab16zero hnt [] [0, 2] (⟨[(0, .sl (.ints l)), (2, .i (((List.length l) : Nat) : Int))], [], [999]⟩)
    (True ∧ (True ∧ (True ∧ True))) (by kernel_rfl)
    ⟨trivial, ⟨trivial, ⟨trivial, trivial⟩⟩⟩ ?_
  refine W.L cok tab16zero hnt [] (⟨[(0, .sl (.ints l)), (2, .i (((List.length l) : Nat) : Int)), (5, .sl (.ints l)), (6, .i (((List.length l) : Nat) : Int)), (7, .i (((List.length l) : Nat) : Int)), (8, .v (.int .u64 (((List.length l) : Nat) : Int))), (9, .i 0), (10, .tup [])], [], [999]⟩)
    (True ∧ (True ∧ (True ∧ ((True ∧ (Fits .u64 (((List.length l) : Nat) : Int))) ∧ ((True ∧ ((True ∧ True) ∧ ((((List.length l) : Nat) : Int) = 0))) ∧ ((True ∧ ((True ∧ (True ∧ (True ∧ (True ∧ True)))) ∧ (((0 : Int) = 0) ∧ ((((List.length l) : Nat) : Int) = 0)))) ∧ True)))))) (by kernel_rfl)
    ⟨trivial, ⟨trivial, ⟨trivial, ⟨⟨trivial, (by exact fits_u64 (by omega) (by omega))⟩, ⟨⟨trivial, ⟨⟨trivial, trivial⟩, (by omega)⟩⟩, ⟨⟨trivial, ⟨⟨trivial, ⟨trivial, ⟨trivial, ⟨trivial, trivial⟩⟩⟩⟩, ⟨(by omega), (by omega)⟩⟩⟩, trivial⟩⟩⟩⟩⟩⟩ ?_
  exact endQ_norm (.tup []) (by kernel_rfl) (@cast (True) _ (by kernel_rfl) trivial)
theorem ent16zero : Entr prog 16 := ⟨_, func16, rfl, by decide⟩

end Go.Proofs.Try
