import Derived.Test.YthjkiipikpiepaaDS
import Derived.Test.YthjkiipikpiepaaM8
import Derived.Test.YthjkiipikpiepaaDP14
set_option linter.unusedSimpArgs false
set_option linter.unusedVariables false
namespace Go.Proofs.Try
open Go.Ab Go.RowKit
/-- impl.areCounts$1 -/
def fs21 : FnS := fnS [.o] [.int] (fun _ (n, _) => (.b (!within n 0 20), [], True))
abbrev T21 : Tab := lk [(14, fs14)]
theorem tab21 : TabOK prog T21 := (TabOK.cons ok14 ent14 TabOK.nil)
set_option maxRecDepth 100000 in
set_option maxHeartbeats 1000000 in
theorem ok21 : FnOK prog 21 fs21 := by
  refine FnOK.mk cok func21 rfl rfl rfl ?_
  rintro fl ⟨(n : Int), _⟩ hpre F hnt0 _
  have hnt : F.nt = 6 := hnt0.trans ntmps21
  clear hpre
  refine W.to (⟨[(0, .i n)], [], [999]⟩) rfl ?_
  refine W.K cok tab21 hnt [] [0] (⟨[(0, .i n)], [], [999]⟩)
    (True ∧ True) (by kernel_rfl)
    ⟨trivial, trivial⟩ ?_
  refine W.K cok tab21 hnt [] [2] (⟨[(2, .b (!(within n (0 : Int) (20 : Int))))], [], [999]⟩)
    (True ∧ ((True ∧ ((True ∧ (True ∧ (True ∧ True))) ∧ True)) ∧ (True ∧ (True ∧ True)))) (by kernel_rfl)
    ⟨trivial, ⟨⟨trivial, ⟨⟨trivial, ⟨trivial, ⟨trivial, trivial⟩⟩⟩, trivial⟩⟩, ⟨trivial, ⟨trivial, trivial⟩⟩⟩⟩ ?_
  refine W.ret ?_
  exact endQ_ret (.b (!(within n (0 : Int) (20 : Int)))) (by kernel_rfl) (@cast ((.bool (!(within n (0 : Int) (20 : Int))) : Value) = .bool (!within n 0 20)) _ (by kernel_rfl) (congrArg Value.bool (by first | rfl | simp_all)))
theorem ent21 : Entr prog 21 := ⟨_, func21, rfl, by decide⟩

end Go.Proofs.Try
