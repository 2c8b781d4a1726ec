import Derived.Test.YtcjnccepckdiaaaAS
import Derived.Test.YtcjnccepckdiaaaM1
set_option linter.unusedSimpArgs false
set_option linter.unusedVariables false
namespace Go.Proofs.Try
open Go.Ab Go.RowKit
/-- impl.within -/
def fs97 : FnS := fnS [.o, .o, .o] [.int, .int, .int] (fun _ (n, low, high, _) => (.b (within n low high), [], True))
abbrev T97 : Tab := lk []
theorem tab97 : TabOK prog T97 := TabOK.nil
set_option maxRecDepth 100000 in
set_option maxHeartbeats 1000000 in
theorem ok97 : FnOK prog 97 fs97 := by
  refine FnOK.mk cok func97 rfl rfl rfl ?_
  rintro fl ⟨(n : Int), (low : Int), (high : Int), _⟩ hpre F hnt0 _
  have hnt : F.nt = 15 := hnt0.trans ntmps97
  clear hpre
  refine W.to (⟨[(0, .i n), (1, .i low), (2, .i high)], [], [999]⟩) rfl ?_
  refine W.K cok tab97 hnt [] [0, 1, 2] (⟨[(0, .i n), (1, .i low), (2, .i high)], [], [999]⟩)
    (True ∧ True) (by kernel_rfl)
    ⟨trivial, trivial⟩ ?_
  refine W.K cok tab97 hnt [] [6] (⟨[(6, .b ((decide (low ≤ n)) && (decide (n ≤ high))))], [], [999]⟩)
    (True ∧ (True ∧ ((True ∧ (True ∧ True)) ∧ (True ∧ (((decide (low ≤ n)) = true → True) ∧ (((decide (low ≤ n)) = true → True) ∧ (((decide (low ≤ n)) = true → ((((decide (low ≤ n)) = true) ∧ True) ∧ ((((decide (low ≤ n)) = true) ∧ True) ∧ True))) ∧ ((True ∧ (((decide (low ≤ n)) = true → ((decide (low ≤ n)) = true) ∧ True) ∧ ((decide (low ≤ n)) = false → True))) ∧ (True ∧ True))))))))) (by kernel_rfl)
    ⟨trivial, ⟨trivial, ⟨⟨trivial, ⟨trivial, trivial⟩⟩, ⟨trivial, ⟨(fun _ => trivial), ⟨(fun _ => trivial), ⟨(fun hG => ⟨⟨hG, trivial⟩, ⟨⟨hG, trivial⟩, trivial⟩⟩), ⟨⟨trivial, ⟨(fun hp => ⟨hp, trivial⟩), (fun _ => trivial)⟩⟩, ⟨trivial, trivial⟩⟩⟩⟩⟩⟩⟩⟩⟩ ?_
  refine W.ret ?_
  exact endQ_ret (.b ((decide (low ≤ n)) && (decide (n ≤ high)))) (by kernel_rfl) (@cast ((.bool ((decide (low ≤ n)) && (decide (n ≤ high))) : Value) = .bool (within n low high)) _ (by kernel_rfl) (congrArg Value.bool (by first | rfl | simp_all)))
theorem ent97 : Entr prog 97 := ⟨_, func97, rfl, by decide⟩

end Go.Proofs.Try
