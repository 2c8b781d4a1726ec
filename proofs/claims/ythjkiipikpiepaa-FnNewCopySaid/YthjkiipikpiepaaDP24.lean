import Derived.Test.YthjkiipikpiepaaDS
import Derived.Test.YthjkiipikpiepaaM8
set_option linter.unusedSimpArgs false
set_option linter.unusedVariables false
namespace Go.Proofs.Try
open Go.Ab Go.RowKit
/-- cmp.isNaN[int] -/
def fs24 : FnS := fnS [.o] [.int] (fun _ (x, _) => (.b false, [], True))
abbrev T24 : Tab := lk []
theorem tab24 : TabOK prog T24 := TabOK.nil
set_option maxRecDepth 100000 in
set_option maxHeartbeats 1000000 in
theorem ok24 : FnOK prog 24 fs24 := by
  refine FnOK.mk cok func24 rfl rfl rfl ?_
  rintro fl ⟨(x : Int), _⟩ hpre F hnt0 _
  have hnt : F.nt = 6 := hnt0.trans ntmps24
  clear hpre
  refine W.to (⟨[(0, .i x)], [], [999]⟩) rfl ?_
  refine W.K cok tab24 hnt [] [0] (⟨[(0, .i x)], [], [999]⟩)
    (True ∧ True) (by kernel_rfl)
    ⟨trivial, trivial⟩ ?_
  refine W.K cok tab24 hnt [] [2] (⟨[(2, .b (decide (x ≠ x)))], [], [999]⟩)
    (True ∧ (True ∧ ((True ∧ (True ∧ True)) ∧ (True ∧ True)))) (by kernel_rfl)
    ⟨trivial, ⟨trivial, ⟨⟨trivial, ⟨trivial, trivial⟩⟩, ⟨trivial, trivial⟩⟩⟩⟩ ?_
  refine W.ret ?_
  exact endQ_ret (.b (decide (x ≠ x))) (by kernel_rfl) (@cast ((.bool (decide (x ≠ x)) : Value) = .bool false) _ (by kernel_rfl) (congrArg Value.bool (by simp)))
theorem ent24 : Entr prog 24 := ⟨_, func24, rfl, by decide⟩

end Go.Proofs.Try
