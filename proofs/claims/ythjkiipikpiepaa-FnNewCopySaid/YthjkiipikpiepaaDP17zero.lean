import Derived.Test.YthjkiipikpiepaaDS
import Derived.Test.YthjkiipikpiepaaM9
set_option linter.unusedSimpArgs false
set_option linter.unusedVariables false
namespace Go.Proofs.Try
open Go.Ab Go.RowKit
/-- slices.Compact[[]int,int]@0 -/
def fs17zero : FnS := fnS [.s .ints] [.ints] (fun _ (l, _) => (.sl (.ints l), [], (l.length = 0)))
abbrev T17zero : Tab := lk []
theorem tab17zero : TabOK prog T17zero := TabOK.nil
set_option maxRecDepth 100000 in
set_option maxHeartbeats 1000000 in
theorem ok17zero : FnOK prog 17 fs17zero := by
  refine FnOK.mk cok func17 rfl rfl rfl ?_
  rintro fl ⟨(l : List Int), _⟩ hpre F hnt0 _
  have hnt : F.nt = 61 := hnt0.trans ntmps17
  replace hpre : (l.length = 0) := hpre
  have hl := hpre
  refine W.to (⟨[(0, .sl (.ints l))], [], [999]⟩) rfl ?_
  refine W.lenOf 0 (.ints l) (by kernel_rfl) ?_
  intro hl_l; replace hl_l : List.length l ≤ 9223372036854775807 := hl_l
  refine W.K cok tab17zero hnt [] [0] (⟨[(0, .sl (.ints l))], [], [999]⟩)
    (True ∧ True) (by kernel_rfl)
    ⟨trivial, trivial⟩ ?_
  refine W.seq ?_
  refine W.K cok tab17zero hnt [] [0, 8] (⟨[(0, .sl (.ints l)), (8, .b (decide ((((List.length l) : Nat) : Int) < (2 : Int))))], [], [999]⟩)
    (True ∧ (True ∧ ((True ∧ (True ∧ True)) ∧ True))) (by kernel_rfl)
    ⟨trivial, ⟨trivial, ⟨⟨trivial, ⟨trivial, trivial⟩⟩, trivial⟩⟩⟩ ?_
  refine W.ifP ((((List.length l) : Nat) : Int) < (2 : Int)) (.b (decide ((((List.length l) : Nat) : Int) < (2 : Int)))) (by kernel_rfl) rfl trivial ?_ ?_
  · intro h8
    refine W.K cok tab17zero hnt [] [2] (⟨[(2, .sl (.ints l))], [], [999]⟩)
      (True ∧ (True ∧ True)) (by kernel_rfl)
      ⟨trivial, ⟨trivial, trivial⟩⟩ ?_
    refine W.ret (thenQ_ret ?_)
    exact endQ_ret (.sl (.ints l)) (by kernel_rfl) (@cast ((.ints l : Dat) = .ints l) _ (by kernel_rfl) rfl)
  · intro n8
    exact (show False from (by omega)).elim
theorem ent17zero : Entr prog 17 := ⟨_, func17, rfl, by decide⟩

end Go.Proofs.Try
