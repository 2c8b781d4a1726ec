import Derived.Test.YthjkiipikpiepaaDS
import Derived.Test.YthjkiipikpiepaaM1
set_option linter.unusedSimpArgs false
set_option linter.unusedVariables false
namespace Go.Proofs.Try
open Go.Ab Go.RowKit
/-- impl.within -/
def fs14 : FnS := fnS [.o, .o, .o] [.int, .int, .int] (fun _ (n, low, high, _) => (.b (within n low high), [], True))
abbrev T14 : Tab := lk []
theorem tab14 : TabOK prog T14 := TabOK.nil
set_option maxRecDepth 100000 in
set_option maxHeartbeats 1000000 in
theorem ok14 : FnOK prog 14 fs14 := by
  refine FnOK.mk cok func14 rfl rfl rfl ?_
  rintro fl ⟨(n : Int), (low : Int), (high : Int), _⟩ hpre F hnt0 _
  have hnt : F.nt = 15 := hnt0.trans ntmps14
  clear hpre
  refine W.to (⟨[(0, .i n), (1, .i low), (2, .i high)], [], [999]⟩) rfl ?_
  refine W.K cok tab14 hnt [] [0, 1, 2] (⟨[(0, .i n), (1, .i low), (2, .i high)], [], [999]⟩)
    (True ∧ True) (by kernel_rfl)
    ⟨trivial, trivial⟩ ?_
  refine W.K cok tab14 hnt [] [6] (⟨[(6, .b ((decide (low ≤ n)) && (decide (n ≤ high))))], [], [999]⟩)
    (True ∧ (True ∧ ((True ∧ (True ∧ True)) ∧ (True ∧ (((decide (low ≤ n)) = true → True) ∧ (((decide (low ≤ n)) = true → True) ∧ (((decide (low ≤ n)) = true → ((((decide (low ≤ n)) = true) ∧ True) ∧ ((((decide (low ≤ n)) = true) ∧ True) ∧ True))) ∧ ((True ∧ (((decide (low ≤ n)) = true → ((decide (low ≤ n)) = true) ∧ True) ∧ ((decide (low ≤ n)) = false → True))) ∧ (True ∧ True))))))))) (by kernel_rfl)
    ⟨trivial, ⟨trivial, ⟨⟨trivial, ⟨trivial, trivial⟩⟩, ⟨trivial, ⟨(fun _ => trivial), ⟨(fun _ => trivial), ⟨(fun hG => ⟨⟨hG, trivial⟩, ⟨⟨hG, trivial⟩, trivial⟩⟩), ⟨⟨trivial, ⟨(fun hp => ⟨hp, trivial⟩), (fun _ => trivial)⟩⟩, ⟨trivial, trivial⟩⟩⟩⟩⟩⟩⟩⟩⟩ ?_
  refine W.ret ?_
  exact endQ_ret (.b ((decide (low ≤ n)) && (decide (n ≤ high)))) (by kernel_rfl) (@cast ((.bool ((decide (low ≤ n)) && (decide (n ≤ high))) : Value) = .bool (within n low high)) _ (by kernel_rfl) (congrArg Value.bool (by first | rfl | simp_all)))
theorem ent14 : Entr prog 14 := ⟨_, func14, rfl, by decide⟩

end Go.Proofs.Try
