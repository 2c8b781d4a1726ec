import Derived.Test.YtcjnccepckdiaaaAS
import Derived.Test.YtcjnccepckdiaaaM1
set_option linter.unusedSimpArgs false
set_option linter.unusedVariables false
namespace Go.Proofs.Try
open Go.Ab Go.RowKit
/-- impl.IsBefore -/
def fs62 : FnS := fnS [.o, .o] [.call, .call] (fun _ (a, b, _) => (.b (isBefore a b), [], True))
abbrev T62 : Tab := lk []
theorem tab62 : TabOK prog T62 := TabOK.nil
set_option maxRecDepth 100000 in
set_option maxHeartbeats 1000000 in
theorem ok62 : FnOK prog 62 fs62 := by
  refine FnOK.mk cok func62 rfl rfl rfl ?_
  rintro fl ⟨(a : CallD), (b : CallD), _⟩ hpre F hnt0 _
  have hnt : F.nt = 10 := hnt0.trans ntmps62
  clear hpre
  refine W.to (⟨[(0, .agg [.i a.proc, .i a.obj, .i a.kind, .i a.arg, .i a.ret, .i a.frm, .i a.to]), (1, .agg [.i b.proc, .i b.obj, .i b.kind, .i b.arg, .i b.ret, .i b.frm, .i b.to])], [], [999]⟩) rfl ?_
  refine W.K cok tab62 hnt [] [2, 3] (⟨[(2, .ptr 2 0), (3, .ptr 3 0)], [(2, ⟨27, .fix [.i a.proc, .i a.obj, .i a.kind, .i a.arg, .i a.ret, .i a.frm, .i a.to]⟩), (3, ⟨27, .fix [.i b.proc, .i b.obj, .i b.kind, .i b.arg, .i b.ret, .i b.frm, .i b.to]⟩)], [3, 2, 999]⟩)
    (True ∧ (True ∧ (True ∧ True))) (by kernel_rfl)
    ⟨trivial, ⟨trivial, ⟨trivial, trivial⟩⟩⟩ ?_
  refine W.K cok tab62 hnt [] [4] (⟨[(4, .b (decide (a.to < b.frm)))], [(2, ⟨27, .fix [.i a.proc, .i a.obj, .i a.kind, .i a.arg, .i a.ret, .i a.frm, .i a.to]⟩), (3, ⟨27, .fix [.i b.proc, .i b.obj, .i b.kind, .i b.arg, .i b.ret, .i b.frm, .i b.to]⟩)], [3, 2, 999]⟩)
    (True ∧ (True ∧ (True ∧ (True ∧ ((True ∧ (True ∧ True)) ∧ (True ∧ True)))))) (by kernel_rfl)
    ⟨trivial, ⟨trivial, ⟨trivial, ⟨trivial, ⟨⟨trivial, ⟨trivial, trivial⟩⟩, ⟨trivial, trivial⟩⟩⟩⟩⟩⟩ ?_
  refine W.ret ?_
  exact endQ_ret (.b (decide (a.to < b.frm))) (by kernel_rfl) (@cast ((.bool (decide (a.to < b.frm)) : Value) = .bool (isBefore a b)) _ (by kernel_rfl) (congrArg Value.bool (by first | rfl | simp_all)))
theorem ent62 : Entr prog 62 := ⟨_, func62, rfl, by decide⟩

end Go.Proofs.Try
