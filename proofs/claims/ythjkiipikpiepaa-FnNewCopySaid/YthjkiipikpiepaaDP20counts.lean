import Derived.Test.YthjkiipikpiepaaDS
import Derived.Test.YthjkiipikpiepaaM8
import Derived.Test.YthjkiipikpiepaaDP25counts
set_option linter.unusedSimpArgs false
set_option linter.unusedVariables false
namespace Go.Proofs.Try
open Go.Ab Go.RowKit
/-- slices.ContainsFunc[[]int,int]@counts -/
def fs20counts : FnS := fnS [.s .ints, .o] [.ints, (.fn0 21)] (fun _ (l, (), _) => (.b (anyN l.length (fun jj => !within (l.getD jj 0) 0 20)), [], True))
abbrev T20counts : Tab := lk [(25, fs25counts)]
theorem tab20counts : TabOK prog T20counts := (TabOK.cons ok25counts ent25counts TabOK.nil)
set_option maxRecDepth 100000 in
set_option maxHeartbeats 1000000 in
theorem ok20counts : FnOK prog 20 fs20counts := by
  refine FnOK.mk cok func20 rfl rfl rfl ?_
  rintro fl ⟨(l : List Int), ⟨⟩, _⟩ hpre F hnt0 _
  have hnt : F.nt = 9 := hnt0.trans ntmps20
  clear hpre
  refine W.to (⟨[(0, .sl (.ints l)), (1, .fn 21 [])], [], [999]⟩) rfl ?_
  refine W.lenOf 0 (.ints l) (by kernel_rfl) ?_
  intro hl_l; replace hl_l : List.length l ≤ 9223372036854775807 := hl_l
  refine W.K cok tab20counts hnt [] [0, 1] (⟨[(0, .sl (.ints l)), (1, .fn 21 [])], [], [999]⟩)
    (True ∧ True) (by kernel_rfl)
    ⟨trivial, trivial⟩ ?_
  refine W.K cok tab20counts hnt [] [4] (⟨[(4, .b (decide ((0 : Int) ≤ (firstI l.length (fun jj => !within (l.getD jj 0) 0 20)))))], [], [999]⟩)
    (True ∧ (True ∧ ((True ∧ ((True ∧ (True ∧ True)) ∧ True)) ∧ ((True ∧ (True ∧ True)) ∧ (True ∧ True))))) (by kernel_rfl)
    ⟨trivial, ⟨trivial, ⟨⟨trivial, ⟨⟨trivial, ⟨trivial, trivial⟩⟩, trivial⟩⟩, ⟨⟨trivial, ⟨trivial, trivial⟩⟩, ⟨trivial, trivial⟩⟩⟩⟩⟩ ?_
  refine W.ret ?_
  exact endQ_ret (.b (decide ((0 : Int) ≤ (firstI l.length (fun jj => !within (l.getD jj 0) 0 20))))) (by kernel_rfl) (@cast ((.bool (decide ((0 : Int) ≤ (firstI l.length (fun jj => !within (l.getD jj 0) 0 20)))) : Value) = .bool (anyN l.length (fun jj => !within (l.getD jj 0) 0 20))) _ (by kernel_rfl) (congrArg Value.bool (by exact firstI_has _ _)))
theorem ent20counts : Entr prog 20 := ⟨_, func20, rfl, by decide⟩

end Go.Proofs.Try
