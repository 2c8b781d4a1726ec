import Derived.Test.YtcjnccepckdiaaaAS
import Derived.Test.YtcjnccepckdiaaaM7
import Derived.Test.YtcjnccepckdiaaaAP134
set_option linter.unusedSimpArgs false
set_option linter.unusedVariables false
namespace Go.Proofs.Try
open Go.Ab Go.RowKit
/-- slices.Contains[[]int,int] -/
def fs121 : FnS := fnS [.s .ints, .o] [.ints, .int] (fun _ (l, x, _) => (.b (hasInt l x), [], True))
abbrev T121 : Tab := lk [(134, fs134)]
theorem tab121 : TabOK prog T121 := (TabOK.cons ok134 ent134 TabOK.nil)
set_option maxRecDepth 100000 in
set_option maxHeartbeats 1000000 in
theorem ok121 : FnOK prog 121 fs121 := by
  refine FnOK.mk cok func121 rfl rfl rfl ?_
  rintro fl ⟨(l : List Int), (x : Int), _⟩ hpre F hnt0 _
  have hnt : F.nt = 9 := hnt0.trans ntmps121
  clear hpre
  refine W.to (⟨[(0, .sl (.ints l)), (1, .i x)], [], [999]⟩) rfl ?_
  refine W.lenOf 0 (.ints l) (by kernel_rfl) ?_
  intro hl_l; replace hl_l : List.length l ≤ 9223372036854775807 := hl_l
  refine W.K cok tab121 hnt [] [0, 1] (⟨[(0, .sl (.ints l)), (1, .i x)], [], [999]⟩)
    (True ∧ True) (by kernel_rfl)
    ⟨trivial, trivial⟩ ?_
  refine W.K cok tab121 hnt [] [4] (⟨[(4, .b (decide ((0 : Int) ≤ (findI l x))))], [], [999]⟩)
    (True ∧ (True ∧ ((True ∧ ((True ∧ (True ∧ True)) ∧ True)) ∧ ((True ∧ (True ∧ True)) ∧ (True ∧ True))))) (by kernel_rfl)
    ⟨trivial, ⟨trivial, ⟨⟨trivial, ⟨⟨trivial, ⟨trivial, trivial⟩⟩, trivial⟩⟩, ⟨⟨trivial, ⟨trivial, trivial⟩⟩, ⟨trivial, trivial⟩⟩⟩⟩⟩ ?_
  refine W.ret ?_
  exact endQ_ret (.b (decide ((0 : Int) ≤ (findI l x)))) (by kernel_rfl) (@cast ((.bool (decide ((0 : Int) ≤ (findI l x))) : Value) = .bool (hasInt l x)) _ (by kernel_rfl) (congrArg Value.bool (by exact findI_has l x)))
theorem ent121 : Entr prog 121 := ⟨_, func121, rfl, by decide⟩

end Go.Proofs.Try
