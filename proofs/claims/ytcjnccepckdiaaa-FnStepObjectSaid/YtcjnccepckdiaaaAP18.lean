import Derived.Test.YtcjnccepckdiaaaAS
import Derived.Test.YtcjnccepckdiaaaM1
import Derived.Test.YtcjnccepckdiaaaAP62
set_option linter.unusedSimpArgs false
set_option linter.unusedVariables false
namespace Go.Proofs.Try
open Go.Ab Go.RowKit
/-- impl.DoOverlap -/
def fs18 : FnS := fnS [.o, .o] [.call, .call] (fun _ (a, b, _) => (.b (doOverlap a b), [], True))
abbrev T18 : Tab := lk [(62, fs62)]
theorem tab18 : TabOK prog T18 := (TabOK.cons ok62 ent62 TabOK.nil)
set_option maxRecDepth 100000 in
set_option maxHeartbeats 1000000 in
theorem ok18 : FnOK prog 18 fs18 := by
  refine FnOK.mk cok func18 rfl rfl rfl ?_
  rintro fl ⟨(a : CallD), (b : CallD), _⟩ hpre F hnt0 _
  have hnt : F.nt = 15 := hnt0.trans ntmps18
  clear hpre
  refine W.to (⟨[(0, .agg [.i a.proc, .i a.obj, .i a.kind, .i a.arg, .i a.ret, .i a.frm, .i a.to]), (1, .agg [.i b.proc, .i b.obj, .i b.kind, .i b.arg, .i b.ret, .i b.frm, .i b.to])], [], [999]⟩) rfl ?_
  refine W.K cok tab18 hnt [] [2, 3] (⟨[(2, .ptr 2 0), (3, .ptr 3 0)], [(2, ⟨27, .fix [.i a.proc, .i a.obj, .i a.kind, .i a.arg, .i a.ret, .i a.frm, .i a.to]⟩), (3, ⟨27, .fix [.i b.proc, .i b.obj, .i b.kind, .i b.arg, .i b.ret, .i b.frm, .i b.to]⟩)], [3, 2, 999]⟩)
    (True ∧ (True ∧ (True ∧ True))) (by kernel_rfl)
    ⟨trivial, ⟨trivial, ⟨trivial, trivial⟩⟩⟩ ?_
  refine W.K cok tab18 hnt [] [4] (⟨[(4, .b ((!(isBefore a b)) && (!(isBefore b a))))], [(2, ⟨27, .fix [.i a.proc, .i a.obj, .i a.kind, .i a.arg, .i a.ret, .i a.frm, .i a.to]⟩), (3, ⟨27, .fix [.i b.proc, .i b.obj, .i b.kind, .i b.arg, .i b.ret, .i b.frm, .i b.to]⟩)], [3, 2, 999]⟩)
    (True ∧ (True ∧ ((True ∧ ((True ∧ (True ∧ True)) ∧ True)) ∧ (True ∧ (True ∧ (((!(isBefore a b)) = true → True) ∧ (((!(isBefore a b)) = true → True) ∧ (((!(isBefore a b)) = true → (True ∧ (((((!(isBefore a b)) = true) ∧ True) ∧ ((((!(isBefore a b)) = true) ∧ True) ∧ True)) ∧ True))) ∧ (((!(isBefore a b)) = true → (((!(isBefore a b)) = true) ∧ True)) ∧ ((True ∧ (((!(isBefore a b)) = true → ((!(isBefore a b)) = true) ∧ True) ∧ ((!(isBefore a b)) = false → True))) ∧ (True ∧ True))))))))))) (by kernel_rfl)
    ⟨trivial, ⟨trivial, ⟨⟨trivial, ⟨⟨trivial, ⟨trivial, trivial⟩⟩, trivial⟩⟩, ⟨trivial, ⟨trivial, ⟨(fun _ => trivial), ⟨(fun _ => trivial), ⟨(fun hG => ⟨trivial, ⟨⟨⟨hG, trivial⟩, ⟨⟨hG, trivial⟩, trivial⟩⟩, trivial⟩⟩), ⟨(fun hG => ⟨hG, trivial⟩), ⟨⟨trivial, ⟨(fun hp => ⟨hp, trivial⟩), (fun _ => trivial)⟩⟩, ⟨trivial, trivial⟩⟩⟩⟩⟩⟩⟩⟩⟩⟩⟩ ?_
  refine W.ret ?_
  exact endQ_ret (.b ((!(isBefore a b)) && (!(isBefore b a)))) (by kernel_rfl) (@cast ((.bool ((!(isBefore a b)) && (!(isBefore b a))) : Value) = .bool (doOverlap a b)) _ (by kernel_rfl) (congrArg Value.bool (by first | rfl | simp_all)))
theorem ent18 : Entr prog 18 := ⟨_, func18, rfl, by decide⟩

end Go.Proofs.Try
